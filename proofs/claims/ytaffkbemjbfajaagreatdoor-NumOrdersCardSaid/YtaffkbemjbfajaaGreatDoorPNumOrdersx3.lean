-- By a program of this session: functions as plain Lean functions, each with its proof over the machine.
import Derived.Test.YtaffkbemjbfajaaGreatDoorPNumOrdersx0
import Derived.Test.YtaffkbemjbfajaaGreatDoorPNumOrdersx1
import Derived.Test.YtaffkbemjbfajaaGreatDoorPNumOrdersx2
namespace Go.Proofs.YtaffkbemjbfajaaGreatDoor.PNumOrders
open Go.RowKit Go.Proofs.Tryz Go.Proofs.YtaffkbemjbfajaaGreatDoorW.PrintWords Go.Proofs.YtaffkbemjbfajaaGreatDoorW.PrintLast Go.Proofs.YtaffkbemjbfajaaGreatDoorW.PrintMore
attribute [local go_sem] max2_int min2_int max_two min_two max_three min_three max_four min_four
set_option linter.unusedVariables false
set_option linter.unusedSimpArgs false
set_option maxHeartbeats 8000000
set_option maxRecDepth 100000
mutual
def Y3.l0:Nat→List Int→List Int→List Int→Int→Int→Option (List Int)
 | 0,_,_,_,_,_=>none
 | k+1,x1,x5,x16,x17,x18=>if x18<x17 then (if 0≤x18 then (if x18<(x16.length:Int) then (Y3.l1 k x1 x5 x18 (rd x16 x18) x16 x17 x18 x1 (x1.length:Int) 0) else (none)) else (none)) else ((Y1.f k x5).bind fun t423=>(some t423))
def Y3.l1:Nat→List Int→List Int→Int→Int→List Int→Int→Int→List Int→Int→Int→Option (List Int)
 | 0,_,_,_,_,_,_,_,_,_,_=>none
 | k+1,x1,x5,x6,x7,x16,x17,x18,x23,x24,x25=>if x25<x24 then (if 0≤x25 then (if x25<(x23.length:Int) then (if 0≤(wrap64 (x6+x25)) then (if (wrap64 (x6+x25))<(x5.length:Int) then (Y3.l1 k x1 (x5.set ((wrap64 (x6+x25)):Int).toNat (wrap64 ((rd x5 (wrap64 (x6+x25)))+(wrap64 (x7*(rd x23 x25)))))) x6 x7 x16 x17 x18 x23 x24 (wrap64 (x25+1))) else (none)) else (none)) else (none)) else (none)) else (Y3.l0 k x1 x5 x16 x17 (wrap64 (x18+1)))
end
def Y3.f (k:Nat) (l0:List Int) (l1:List Int):Option (List Int):=if 0≤(wrap64 ((l0.length:Int)+(l1.length:Int))) then (if (wrap64 ((l0.length:Int)+(l1.length:Int)):Int).toNat≤35184372088832 then (Y3.l0 k l1 (List.replicate (wrap64 ((l0.length:Int)+(l1.length:Int)):Int).toNat 0) l0 (l0.length:Int) 0) else (none)) else (none)
theorem Y3.mono_l:∀ k,(∀ y0 y1 y2 y3 y4,LeO (Y3.l0 k y0 y1 y2 y3 y4) (Y3.l0 (k+1) y0 y1 y2 y3 y4))∧(∀ y0 y1 y2 y3 y4 y5 y6 y7 y8 y9,LeO (Y3.l1 k y0 y1 y2 y3 y4 y5 y6 y7 y8 y9) (Y3.l1 (k+1) y0 y1 y2 y3 y4 y5 y6 y7 y8 y9))
 | 0=>⟨fun _ _ _ _ _ r h=>by simp [Y3.l0] at h,fun _ _ _ _ _ _ _ _ _ _ r h=>by simp [Y3.l1] at h⟩
 | k+1=>by
  obtain ⟨ih0,ih1⟩:=Y3.mono_l k
  refine ⟨?_,?_⟩
  ·intro y0 y1 y2 y3 y4
   unfold Y3.l0
   have m0:=Y1.mono
   exact zM
  ·intro y0 y1 y2 y3 y4 y5 y6 y7 y8 y9
   unfold Y3.l1
   have m0:=Y1.mono
   exact zM
theorem Y3.mono:∀ a0 a1 k,LeO (Y3.f k a0 a1) (Y3.f (k+1) a0 a1):=by
 intro a0 a1 k
 obtain ⟨ih0,ih1⟩:=Y3.mono_l k
 unfold Y3.f
 have m0:=Y1.mono
 exact zM
theorem Y3.calls (k:Nat) (A0:Option Addr) (c0:Nat) (l0:List Int) (A1:Option Addr) (c1:Nat) (l1:List Int) (r:List Int) (w:World) (hr0:Kd.C (Kd.int .i64) w A0 l0.length l0) (hc0:l0.length≤c0) (hr1:Kd.C (Kd.int .i64) w A1 l1.length l1) (hc1:l1.length≤c1) (h:Y3.f k l0 l1=some r) :
  Calls Tryz.prog 112 #[.slice A0 l0.length c0,.slice A1 l1.length c1] w fun e w'=>∃ v0_:Value,e = .returned (v0_)∧Kd.V (Kd.int .i64) 3 w' w.heap.size (fun k_=>(w.heap.size≤k_)) v0_ r∧Below w.heap.size w w':=by
 have HR0:=aZ hr0
 have HC0:=aZ hc0
 clear hr0 hc0
 have HR1:=aZ hr1
 have HC1:=aZ hc1
 clear hr1 hc1
 have HB:=aZ (Below.refl w.heap.size w)
 have H:=h
 unfold Y3.f at H
 clear h
 obtain ⟨ji3,hji3⟩:∃ j_:Int,(wrap64 ((l0.length:Int)+(l1.length:Int)))=j_:=⟨_,rfl⟩
 (first|rw [hji3] at H|simp only [hji3] at H)
 have hji3w:(IntKind.i64.wrap ((l0.length:Int)+(l1.length:Int)))=ji3:=(i64_w _).trans hji3
 by_cases c4:0≤(ji3)
 case neg=>
  rw [if_neg c4] at H
  cases H
 rw [if_pos c4] at H
 have c4b0:=eq_true c4
 have c4b1:=decide_eq_true c4
 clear c4
 by_cases c5:(ji3:Int).toNat≤35184372088832
 case neg=>
  rw [if_neg c5] at H
  cases H
 rw [if_pos c5] at H
 have c5b0:=eq_true c5
 have c5b1:=decide_eq_true c5
 clear c5
 obtain ⟨y420,hy420⟩:∃ y_:List Int,y_=(List.replicate (ji3:Int).toNat 0):=⟨_,rfl⟩
 replace H:(Y3.l0 k l1 y420 l0 (l0.length:Int) 0)=some r:=zy hy420 H
 have Ny420:=aZ hy420
 clear hy420
 have H':=aZ H
 clear H
 go_enter func112,ntmps112
 go_wp2_with (first|((with_reducible refine gate_dst (N:=15) rfl ?_);refine Kd.R_make (Kd.int .i64) _ 3 rfl (N:=15) rfl 65 _ _ rfl ji3 rfl rfl underlying65 (.int .i64 0) 8 info3 rfl (by decide) (by omega) 0 (ok:=fun _=>True) (okp:=fun _=>True) rfl (fun _ hk=>hk) trivial (zd) (Nat.le_trans (Nat.mul_le_mul_right _ (zd:ji3.toNat≤35184372088832)) (by omega)) (Below.refl _ _) (Nat.le_refl _) ?_;intro v421 w6 ho7 hb hg_ hnew_;clear hg_ hnew_;(first|rw [← Ny420.out] at ho7|(simp only [Int.reduceToNat] at ho7;rw [← Ny420.out] at ho7));have HO422:=aZ (Kd.R_lower (Kd.R_newM (M:=fun k_=>(w.heap.size≤k_)) ho7 bs (fun k_ h_=>h_)) bs);replace HB:=sB hb;clear hb ho7))
 go_loopg [18] k (fun kq v18 w'=>∃ (x5_1:List Int) (x18_1:Int),v18 = .int .i64 x18_1∧Aside0 (Y3.l0 kq l1 x5_1 l0 (l0.length:Int) x18_1=some r)∧Aside0 (kq≤k)∧Aside0 (Kd.R (Kd.int .i64) 3 w' w.heap.size (fun k_=>(w.heap.size≤k_)) v421 x5_1)∧Aside0 (Below w.heap.size w w'))
 case atStart=>exact ⟨(y420),(0),zs,H',⟨Nat.le_refl _⟩,⟨rM HO422 (fun _ hk=>hk.1)⟩,⟨bw⟩⟩
 case round =>
  clear H'
  try clear c1
  try clear c4
  try clear c4b0
  try clear c4b1
  try clear c5
  try clear c5b0
  try clear c5b1
  obtain ⟨x5_1,x18_1,rfl,HA,HK1,HO_5,HB⟩:=hrel
  cases gk with
  | zero=>exact absurd HA.out (by simp [Y3.l0])
  | succ k1 =>
   have H:=HA.out
   clear HA
   simp only [Y3.l0] at H
   by_cases c8:x18_1<(l0.length:Int)
   case neg=>
    rw [if_neg c8] at H
    have c8b0:=decide_eq_false c8
    clear c8
    obtain ⟨t423,A21,H⟩:=zB H
    obtain rfl:=Option.some.inj H
    obtain ⟨Ao22,co22,rfl⟩:=Kd.R_slice HO_5.out
    go_wp2_with (first|(refine zg (some 44) func150 #[.slice Ao22 x5_1.length co22] ?_;(with_reducible refine (Y1.calls k1 (fun k_=>some k_=(.slice Ao22 x5_1.length co22:Value).ownBlock) (.slice Ao22 x5_1.length co22) x5_1 t423 w _ bw ?side2 A21.out).mono ?_);(case side2=>exact Kd.R_tight rfl HO_5.out);rintro e w23 ⟨v424,rfl,ho0,hb,hkp⟩;refine ⟨_,rfl,?_⟩;have HO425:=aZ (Kd.V_mono (ok':=fun k_=>(w.heap.size≤k_)) ho0 (fun k_ hk_=>Or.elim hk_ (fun hs_=>(HO_5.out.1 k_ (hs_).symm)) (fun hn_=>(Nat.le_trans bs hn_))));replace HB:=aZ (hb);clear HO_5;clear hb ho0))
    go_ret
    exact ⟨_,by first|rfl|(simp [errW_none,errW_some] <;> rfl)|(simp only [← hji3];first|rfl|(simp [errW_none,errW_some] <;> rfl))|(simp [*,errW_none,errW_some] <;> rfl),zV HO425,bw⟩
   rw [if_pos c8] at H
   have c8b0:=decide_eq_true c8
   clear c8
   by_cases c9:0≤x18_1
   case neg=>
    rw [if_neg c9] at H
    cases H
   rw [if_pos c9] at H
   have c9b0:=decide_eq_true c9
   clear c9
   by_cases c10:x18_1<(l0.length:Int)
   case neg=>
    rw [if_neg c10] at H
    cases H
   rw [if_pos c10] at H
   have c10b0:=decide_eq_true c10
   clear c10
   have H':=aZ H
   clear H
   have p426:0≤(x18_1:Int):=zd
   have q426:x18_1<(l0.length:Int):=zd
   obtain ⟨ad426,e426,hx426_0⟩:=Kd.at_int HR0.out x18_1 p426 q426
   cases e426
   replace hx426_0:=(HB.out.cell (World.block_lt_of_cell? w _ hx426_0)).trans hx426_0
   replace p426:=eq_true p426
   replace q426:=eq_true q426
   go_wp2
   go_loopg [25] k1 (fun kq v25 w'=>∃ (x5_2:List Int) (x25_2:Int),v25 = .int .i64 x25_2∧Aside0 (Y3.l1 kq l1 x5_2 x18_1 (rd l0 x18_1) l0 (l0.length:Int) x18_1 l1 (l1.length:Int) x25_2=some r)∧Aside0 (kq≤k1)∧Aside0 (Kd.R (Kd.int .i64) 3 w' w.heap.size (fun k_=>(w.heap.size≤k_)) v421 x5_2)∧Aside0 (Below w.heap.size w w'))
   case atStart=>exact ⟨(x5_1),(0),zs,H',⟨Nat.le_refl _⟩,⟨zR HO_5⟩,⟨bw⟩⟩
   case round =>
    clear H'
    try clear c1
    try clear c4
    try clear c4b0
    try clear c4b1
    try clear q4
    try clear hx4
    try clear c5
    try clear c5b0
    try clear c5b1
    try clear c8
    try clear c8b0
    try clear c9
    try clear c9b0
    try clear c10
    try clear c10b0
    try clear hx426_0
    try clear q426
    obtain ⟨x5_2,x25_2,rfl,HA,HK2,HO_5,HB⟩:=hrel
    cases gk with
    | zero=>exact absurd HA.out (by simp [Y3.l1])
    | succ k2 =>
     have H:=HA.out
     clear HA
     simp only [Y3.l1] at H
     by_cases c11:x25_2<(l1.length:Int)
     case neg=>
      rw [if_neg c11] at H
      have c11b0:=decide_eq_false c11
      clear c11
      have H':=aZ H
      clear H
      go_wp2
      go_roundg k2
      case measure=>have:=HK1.out;have:=HK2.out;omega
      case rel=>exact ⟨(x5_2),(wrap64 (x18_1+1)),zs,H',⟨by have:=HK1.out;have:=HK2.out;omega⟩,⟨zR HO_5⟩,⟨bw⟩⟩
     rw [if_pos c11] at H
     have c11b0:=decide_eq_true c11
     clear c11
     by_cases c12:0≤x25_2
     case neg=>
      rw [if_neg c12] at H
      cases H
     rw [if_pos c12] at H
     have c12b0:=decide_eq_true c12
     clear c12
     by_cases c13:x25_2<(l1.length:Int)
     case neg=>
      rw [if_neg c13] at H
      cases H
     rw [if_pos c13] at H
     have c13b0:=decide_eq_true c13
     clear c13
     obtain ⟨ji14,hji14⟩:∃ j_:Int,(wrap64 (x18_1+x25_2))=j_:=⟨_,rfl⟩
     (first|rw [hji14] at H|simp only [hji14] at H)
     have hji14w:(IntKind.i64.wrap (x18_1+x25_2))=ji14:=(i64_w _).trans hji14
     by_cases c15:0≤(ji14)
     case neg=>
      rw [if_neg c15] at H
      cases H
     rw [if_pos c15] at H
     have c15b0:=decide_eq_true c15
     clear c15
     by_cases c16:(ji14)<(x5_2.length:Int)
     case neg=>
      rw [if_neg c16] at H
      cases H
     rw [if_pos c16] at H
     have c16b0:=decide_eq_true c16
     clear c16
     obtain ⟨y429,hy429⟩:∃ y_:List Int,y_=(x5_2.set ((ji14):Int).toNat (wrap64 ((rd x5_2 (ji14))+(wrap64 ((rd l0 x18_1)*(rd l1 x25_2)))))):=⟨_,rfl⟩
     replace H:(Y3.l1 k2 l1 y429 x18_1 (rd l0 x18_1) l0 (l0.length:Int) x18_1 l1 (l1.length:Int) (wrap64 (x25_2+1)))=some r:=zy hy429 H
     have Ny429:=aZ hy429
     clear hy429
     have H':=aZ H
     clear H
     have p427:0≤(x25_2:Int):=zd
     have q427:x25_2<(l1.length:Int):=zd
     obtain ⟨ad427,e427,hx427_0⟩:=Kd.at_int HR1.out x25_2 p427 q427
     cases e427
     replace hx427_0:=(HB.out.cell (World.block_lt_of_cell? w _ hx427_0)).trans hx427_0
     replace p427:=eq_true p427
     replace q427:=eq_true q427
     obtain ⟨Ao18,co18,rfl⟩:=Kd.R_slice HO_5.out
     have p428:0≤((ji14):Int):=zd
     have q428:(ji14)<(x5_2.length:Int):=zd
     obtain ⟨ad428,e428,hx428_0⟩:=Kd.at_int (Kd.R_reads' HO_5.out).2.2 (ji14) p428 q428
     cases e428
     replace p428:=eq_true p428
     replace q428:=eq_true q428
     have p17:0≤((ji14):Int):=zd
     have q17:((ji14):Int)<((x5_2.length:Int):Int):=zd
     obtain ⟨go17,co17,eo17,gb17,gl17,cl17,HG17⟩:=Kd.R_form HO_5.out (by omega)
     (first|cases eo17|(injection eo17 with ea_ en_ ec_;(first|subst ea_|(injection ea_ with ea_;subst ea_));subst ec_;clear en_))
     have GB17:=aZ gb17
     have GG17:=aZ HG17
     clear gb17 gl17 HG17
     (first|simp only [add_plain] at hx428_0|skip)
     obtain ⟨hx17_0,hf17_0⟩:=Kd.R_celln 0 HO_5.out ((ji14):Int) p17 q17
     replace p17:=eq_true p17
     replace q17:=eq_true q17
     have HP19:=Kd.R_putg HO_5.out ((ji14):Int) (wrap64 ((rd x5_2 (ji14))+(wrap64 ((rd l0 x18_1)*(rd l1 x25_2)))))
     go_wp2_with (first|((with_reducible refine gate_store (t:=3) (p:=40) rfl ?_);refine store_event (t:=3) (p:=40) (v:=?vo_w20) (w1:=(wr.setCell ⟨go17,((ji14):Int).toNat,none⟩ (.int .i64 (wrap64 ((rd x5_2 (ji14))+(wrap64 ((rd l0 x18_1)*(rd l1 x25_2)))))))) ?hg ?ho ?hn ?hr ?_;(case ho=>rfl);(case hg=>rfl);(case hn=>rfl);(case hr=>first|(go_simp;done)|(go_simp;rfl));intro w20 hw;have hg:wr.grownBy w20 (some go17):=(by rw [hw];exact HP19.2);have hp_:Kd.R (Kd.int .i64) 3 w20 w.heap.size (fun k_=>(w.heap.size≤k_)) (.slice (some ⟨go17,0,none⟩) x5_2.length co18) y429:=(by rw [hw,Ny429.out];exact HP19.1);clear HP19;replace HO_5:=aZ (hp_);replace HB:=aZ ((by rw [hw];exact below_set (HB.out) GB17.out:Below w.heap.size w w20));clear hg hw hp_))
     go_roundg k2
     case measure=>have:=HK1.out;have:=HK2.out;omega
     case rel=>exact ⟨(y429),(wrap64 (x25_2+1)),zs,H',⟨by have:=HK1.out;have:=HK2.out;omega⟩,⟨zR HO_5⟩,⟨bw⟩⟩
section
def Ya.lp (a2:Int):List Int→Nat→List Int→List Int
 | [],_,o=>o
 | x :: r,i,o=>Ya.lp a2 r (i+1) (o.set i (wrap64 ((rd o (i:Int))+wrap64 (a2*x))))
def Ya.f (k:Nat) (l0:List Int) (l1:List Int) (a2:Int):Option (List Int) :=
 if l0.length<1099511627776∧l1.length<1099511627776 then Y1.f k (Ya.lp a2 l1 0 (l0++List.replicate (l1.length-l0.length) 0)) else none
theorem Ya.mono:∀ a0 a1 a2 k,LeO (Ya.f k a0 a1 a2) (Ya.f (k+1) a0 a1 a2):=by
 intro a0 a1 a2 k
 unfold Ya.f
 exact LeO.ite (Y1.mono _ k) (LeO.none _)
theorem Ya.calls (k:Nat) (A0:Option Addr) (c0:Nat) (l0:List Int) (A1:Option Addr) (c1:Nat) (l1:List Int) (a2:Int) (r:List Int) (w:World) (hr0:Kd.C (Kd.int .i64) w A0 l0.length l0) (hc0:l0.length≤c0) (hr1:Kd.C (Kd.int .i64) w A1 l1.length l1) (hc1:l1.length≤c1) (h:Ya.f k l0 l1 a2=some r) :
  Calls Tryz.prog 119 #[.slice A0 l0.length c0,.slice A1 l1.length c1,.int .i64 a2] w fun e w'=>∃ v0_:Value,e = .returned v0_∧Kd.V (Kd.int .i64) 3 w' w.heap.size (fun k_=>(w.heap.size≤k_)) v0_ r∧Below w.heap.size w w':=by
 unfold Ya.f at h
 by_cases hl:l0.length<1099511627776∧l1.length<1099511627776
 case neg=>rw [if_neg hl] at h;cases h
 rw [if_pos hl] at h
 obtain ⟨mm,hmm⟩:∃ m:Int,(if (l0.length:Int)<(l1.length:Int) then (l1.length:Int) else (l0.length:Int))=m:=⟨_,rfl⟩
 have emm:mm.toNat=l0.length+(l1.length-l0.length):=by rw [← hmm];split <;> omega
 have info3c:(Tryz.prog.info? 3).map (fun i=>(i.zero,i.size,i.bytes))=some (some (.int .i64 0),1,8):=by kernel_rfl
 have info3s:(Tryz.prog.info? 3).map (·.size)=some 1:=by kernel_rfl
 obtain ⟨fin,hfin⟩:∃ o:List Int,Ya.lp a2 l1 0 (l0++List.replicate (l1.length-l0.length) 0)=o:=⟨_,rfl⟩
 rw [hfin] at h
 have hcarry:=fun (v:Value) (W:World) (hB:Below w.heap.size w W) (h0:Kd.R (Kd.int .i64) 3 W w.heap.size (fun b=>w.heap.size≤b) v fin)=>Y1.calls k (fun b=>w.heap.size≤b) v fin r w W hB h0 h
 have HF:=aZ hfin
 clear hfin
 have hmmN:(if l0.length<l1.length then (l1.length:Int) else (l0.length:Int))=mm:=by rw [← hmm];split <;> split <;> omega
 have P3:=aZ (show 0≤mm by rw [← hmm];split <;> omega)
 have P4:=aZ (show mm.toNat≤35184372088832 by omega)
 have EM:=aZ emm
 have HL:=aZ hl
 have HR0:=aZ hr0
 have HR1:=aZ hr1
 have I:=aZ info3c
 have IS:=aZ info3s
 have HB:=aZ (Below.refl w.heap.size w)
 clear hr0 hr1 hc0 hc1 h emm info3c info3s hl
 go_enter func119,ntmps119
 go_wp2_with (first
  | ((with_reducible refine gate_dst (N:=15) rfl ?_);refine Kd.R_make (Kd.int .i64) _ 3 rfl (N:=15) rfl 65 _ _ rfl mm rfl rfl underlying65 (.int .i64 0) 8 I.out rfl (by decide) (by omega) 0 (ok:=fun _=>True) (okp:=fun _=>True) rfl (fun _ hk=>hk) trivial P3.out (Nat.le_trans (Nat.mul_le_mul_right _ P4.out) (by omega)) (Below.refl _ _) (Nat.le_refl _) ?_;intro vo wo hv hb hg_ hnew_;clear hg_ hnew_;have HO:=aZ hv;have HB2:=aZ (below_step HB.out hb);have HRa:=aZ (Kd.C_below HR0.out hb);have HRb:=aZ (Kd.C_below HR1.out hb);clear hv hb)
  | ((with_reducible refine gate_builtin (b:=.copy) (xs:=#[.tmp 16,.tmp 17]) rfl ?_);refine Kd.R_copy (0:Int) w.heap.size rfl (.tmp 16) (.tmp 17) 65 65 3 rfl underlying65 IS.out vo _ l0 A0 _ c0 _ rfl rfl HO.out HRa.out HB2.out HB2.out.size ?_;intro wc hv hb hg;have HC:=aZ hv;have HB3:=aZ hb;have HRc:=aZ hg;clear hv hb hg))
 have e1:l0.take (min l0.length (List.replicate mm.toNat (0:Int)).length)++(List.replicate mm.toNat (0:Int)).drop (min l0.length (List.replicate mm.toNat (0:Int)).length)=l0++List.replicate (l1.length-l0.length) 0:=by
  have:=EM.out
  rw [List.length_replicate,Nat.min_eq_left (by omega),List.take_length,List.drop_replicate,show mm.toNat-l0.length=l1.length-l0.length by omega]
 have hC:=HC.out
 rw [e1] at hC
 obtain ⟨o1,ho1⟩:∃ o:List Int,l0++List.replicate (l1.length-l0.length) 0=o:=⟨_,rfl⟩
 have hF:=HF.out
 rw [ho1] at hC hF
 have ho1l:o1.length=mm.toNat:=by have:=EM.out;rw [← ho1,List.length_append,List.length_replicate];omega
 obtain ⟨Ao,co,eo⟩:=Kd.R_slice hC
 subst eo
 have HC2:=aZ hC
 have HF2:=aZ hF
 have HO1L:=aZ ho1l
 have HM:=aZ hmm
 clear HC HO hC hF e1 ho1 ho1l HRa HRb HRc HB2 HF hmm hmmN
 go_loopg [21] l1.length (fun kq v21 w'=>∃ (i:Nat) (o:List Int),v21 = .int .i64 (i:Int)∧Aside0 (Ya.lp a2 (l1.drop i) i o=fin)∧Aside0 (i≤l1.length∧l1.length-i≤kq)∧Aside0 (o.length=o1.length)∧Aside0 (Kd.R (Kd.int .i64) 3 w' w.heap.size (fun _=>True) (.slice Ao o1.length co) o)∧Aside0 (Below w.heap.size w w'))
 case atStart=>exact ⟨0,o1,rfl,HF2,⟨Nat.zero_le _,Nat.le_refl _⟩,⟨rfl⟩,HC2,HB3⟩
 case round =>
  obtain ⟨i,o,rfl,HF,HI,HOL,HO,HB⟩:=hrel
  clear HF2 HC2 HB3
  by_cases hi:i<l1.length
  case neg=>
   have hil:l1.length≤i:=by omega
   have hf:=HF.out
   rw [List.drop_eq_nil_of_le hil] at hf
   simp only [Ya.lp] at hf
   subst hf
   clear HF
   have hiI:((i:Int)<(l1.length:Int))=False:=eq_false (by omega)
   go_wp2_with (go_at_call 150;(with_reducible refine (hcarry _ _ ?s1 ?s2).mono ?_);(case s1=>exact HB.out);(case s2=>exact Kd.R_mono (Kd.R_bound HO.out) (fun _ hk=>hk.2.1));clear hcarry;rintro e w5 ⟨v5,rfl,hv,hb,_⟩;have HV:=aZ hv;have HB5:=aZ hb;clear hv hb)
   go_ret
   exact ⟨_,rfl,Kd.V_mono HV.out (fun b hb=>hb.elim id (fun h=>Nat.le_trans HB.out.size h)),HB5.out⟩
  have hC1:=Kd.C_below HR1.out HB.out
  obtain ⟨ad1,e1,hx1⟩:=Kd.at_int hC1 (i:Int) (by omega) (by omega)
  subst e1
  rw [Int.toNat_natCast] at hx1
  have hio:i<o.length:=by have:=HOL.out;have:=HO1L.out;have:=EM.out;omega
  obtain ⟨go,cg,eg,g1,g2,_,_⟩:=Kd.R_form HO.out (by omega)
  injection eg with eA en ec
  subst eA ec
  obtain ⟨hx2,hf2⟩:=Kd.R_celln 0 HO.out (i:Int) (by omega) (by omega)
  rw [Int.toNat_natCast] at hx2 hf2
  replace hx2:wr.cell? ⟨go,i,none⟩=some (.int .i64 (rd o (i:Int))):=hx2
  have hlp:=HF.out
  rw [List.drop_eq_getElem_cons hi] at hlp
  simp only [Ya.lp] at hlp
  have hrd:l1[i]=rd l1 (i:Int):=by unfold rd;rw [Int.toNat_natCast,List.getD_eq_getElem?_getD,List.getElem?_eq_getElem hi];rfl
  rw [hrd] at hlp
  obtain ⟨hP,hg⟩:=Kd.R_putg HO.out (i:Int) (wrap64 (rd o (i:Int)+wrap64 (a2*rd l1 (i:Int))))
  rw [Int.toNat_natCast] at hP hg
  have HP:=aZ hP
  have HLP:=aZ hlp
  have HB4:=aZ (below_set (j:=i) (v:=.int .i64 (wrap64 (rd o (i:Int)+wrap64 (a2*rd l1 (i:Int))))) HB.out g1)
  have hlt:(i<o1.length)=True:=eq_true (by have:=HOL.out;omega)
  have hltI:((i:Int)<(o1.length:Int))=True:=eq_true (by have:=HOL.out;omega)
  have hbd:(i:Int)≤1099511627776:=by have:=HL.out;omega
  clear hC1 hP hg hlp hrd hio en g1 g2
  go_wp2
  go_roundg (l1.length-(i+1))
  case measure=>have:=HI.out;omega
  case rel=>exact ⟨i+1,_,by first|rfl|(congr 1;unfold wrap64;omega)|(simp;done),HLP,⟨by omega,Nat.le_refl _⟩,⟨by rw [List.length_set];exact HOL.out⟩,HP,HB4⟩
end
def Y9.l0:Nat→List Int→List Int→Int→Option (Int)
 | 0,_,_,_=>none
 | k+1,x0,x1,x5=>if x5≥0 then (if 0≤x5 then (if x5<(x0.length:Int) then (if x5<(x1.length:Int) then (if (rd x0 x5)=(rd x1 x5) then (Y9.l0 k x0 x1 (wrap64 (x5-1))) else (some (wrap64 ((rd x0 x5)-(rd x1 x5))))) else (none)) else (none)) else (none)) else (some 0)
def Y9.f (k:Nat) (l0:List Int) (l1:List Int):Option (Int):=if (l0.length:Int)=(l1.length:Int) then (Y9.l0 k l0 l1 (wrap64 ((l0.length:Int)-1))) else (some (wrap64 ((l0.length:Int)-(l1.length:Int))))
theorem Y9.mono_l:∀ k,(∀ y0 y1 y2,LeO (Y9.l0 k y0 y1 y2) (Y9.l0 (k+1) y0 y1 y2))
 | 0=>fun _ _ _ r h=>by simp [Y9.l0] at h
 | k+1=>by
  have ih0:=Y9.mono_l k
  ·intro y0 y1 y2
   unfold Y9.l0
   exact zM
theorem Y9.mono:∀ a0 a1 k,LeO (Y9.f k a0 a1) (Y9.f (k+1) a0 a1):=by
 intro a0 a1 k
 have ih0:=Y9.mono_l k
 unfold Y9.f
 exact zM
theorem Y9.calls (k:Nat) (A0:Option Addr) (c0:Nat) (l0:List Int) (A1:Option Addr) (c1:Nat) (l1:List Int) (r:Int) (w:World) (hr0:Kd.C (Kd.int .i64) w A0 l0.length l0) (hc0:l0.length≤c0) (hr1:Kd.C (Kd.int .i64) w A1 l1.length l1) (hc1:l1.length≤c1) (h:Y9.f k l0 l1=some r) :
  Calls Tryz.prog 120 #[.slice A0 l0.length c0,.slice A1 l1.length c1] w fun e w'=>e = .returned (.int .i64 r)∧Drawn0 w w':=by
 have HR0:=aZ hr0
 have HC0:=aZ hc0
 clear hr0 hc0
 have HR1:=aZ hr1
 have HC1:=aZ hc1
 clear hr1 hc1
 have H:=h
 unfold Y9.f at H
 clear h
 by_cases c3:(l0.length:Int)=(l1.length:Int)
 case neg=>
  rw [if_neg c3] at H
  obtain ⟨c3b0,c3b1⟩:=zX c3
  have c3b2:(l0.length==l1.length)=false:=by first|simpa using c3|(simp at c3 ⊢;omega)
  obtain rfl:=Option.some.inj H
  go_enter func120,ntmps120
  go_wp2
  repeat (go_quiet (fail);try go_wp2)
  go_ret
  exact ⟨zs,by repeat (first|exact Drawn0.refl _|apply Drawn0.step)⟩
 rw [if_pos c3] at H
 obtain ⟨c3b0,c3b1⟩:=zY c3
 have c3b2:(l0.length==l1.length)=true:=by first|simpa using c3|(simp at c3 ⊢;omega)
 clear c3
 have H':=aZ H
 clear H
 go_enter func120,ntmps120
 go_wp2
 repeat (go_quiet (fail);try go_wp2)
 go_loopg [5] k (fun kq v5 w'=>∃ (x5_1:Int),v5 = .int .i64 x5_1∧Aside0 (Y9.l0 kq l0 l1 x5_1=some r)∧Aside0 (kq≤k)∧Drawn0 w w')
 case atStart=>exact ⟨(wrap64 ((l0.length:Int)-1)),zs,H',⟨Nat.le_refl _⟩,by repeat (first|exact Drawn0.refl _|apply Drawn0.step)⟩
 case round =>
  clear H'
  try clear c1
  try clear c3
  try clear c3b0
  try clear c3b1
  try clear c3b2
  obtain ⟨x5_1,rfl,HA,HK1,⟨m1,rfl⟩⟩:=hrel
  cases gk with
  | zero=>exact absurd HA.out (by simp [Y9.l0])
  | succ k1 =>
   have H:=HA.out
   clear HA
   simp only [Y9.l0] at H
   by_cases c4:x5_1≥0
   case neg=>
    rw [if_neg c4] at H
    have c4b0:=decide_eq_false c4
    clear c4
    obtain rfl:=Option.some.inj H
    go_wp2
    repeat (go_quiet (fail);try go_wp2)
    go_ret
    exact ⟨zs,by repeat (first|exact Drawn0.refl _|apply Drawn0.step)⟩
   rw [if_pos c4] at H
   have c4b0:=decide_eq_true c4
   clear c4
   by_cases c5:0≤x5_1
   case neg=>
    rw [if_neg c5] at H
    cases H
   rw [if_pos c5] at H
   have c5b0:=decide_eq_true c5
   clear c5
   by_cases c6:x5_1<(l0.length:Int)
   case neg=>
    rw [if_neg c6] at H
    cases H
   rw [if_pos c6] at H
   have c6b0:=decide_eq_true c6
   clear c6
   by_cases c7:x5_1<(l1.length:Int)
   case neg=>
    rw [if_neg c7] at H
    cases H
   rw [if_pos c7] at H
   have c7b0:=decide_eq_true c7
   clear c7
   by_cases c8:(rd l0 x5_1)=(rd l1 x5_1)
   case neg=>
    rw [if_neg c8] at H
    obtain ⟨c8b0,c8b1⟩:=zX c8
    obtain rfl:=Option.some.inj H
    have p430:0≤(x5_1:Int):=zd
    have q430:x5_1<(l0.length:Int):=zd
    obtain ⟨ad430,e430,hx430_0⟩:=Kd.at_int HR0.out x5_1 p430 q430
    cases e430
    replace p430:=eq_true p430
    replace q430:=eq_true q430
    have p431:0≤(x5_1:Int):=zd
    have q431:x5_1<(l1.length:Int):=zd
    obtain ⟨ad431,e431,hx431_0⟩:=Kd.at_int HR1.out x5_1 p431 q431
    cases e431
    replace p431:=eq_true p431
    replace q431:=eq_true q431
    have p432:0≤(x5_1:Int):=zd
    have q432:x5_1<(l0.length:Int):=zd
    obtain ⟨ad432,e432,hx432_0⟩:=Kd.at_int HR0.out x5_1 p432 q432
    obtain rfl:ad430=ad432:=(by injection e432)
    replace p432:=eq_true p432
    replace q432:=eq_true q432
    have p433:0≤(x5_1:Int):=zd
    have q433:x5_1<(l1.length:Int):=zd
    obtain ⟨ad433,e433,hx433_0⟩:=Kd.at_int HR1.out x5_1 p433 q433
    obtain rfl:ad431=ad433:=(by injection e433)
    replace p433:=eq_true p433
    replace q433:=eq_true q433
    go_wp2
    repeat (go_quiet (fail);try go_wp2)
    go_ret
    exact ⟨zs,by repeat (first|exact Drawn0.refl _|apply Drawn0.step)⟩
   rw [if_pos c8] at H
   obtain ⟨c8b0,c8b1⟩:=zY c8
   clear c8
   have H':=aZ H
   clear H
   have p430:0≤(x5_1:Int):=zd
   have q430:x5_1<(l0.length:Int):=zd
   obtain ⟨ad430,e430,hx430_0⟩:=Kd.at_int HR0.out x5_1 p430 q430
   cases e430
   replace p430:=eq_true p430
   replace q430:=eq_true q430
   have p431:0≤(x5_1:Int):=zd
   have q431:x5_1<(l1.length:Int):=zd
   obtain ⟨ad431,e431,hx431_0⟩:=Kd.at_int HR1.out x5_1 p431 q431
   cases e431
   replace p431:=eq_true p431
   replace q431:=eq_true q431
   go_wp2
   repeat (go_quiet (fail);try go_wp2)
   go_roundg k1
   case measure=>have:=HK1.out;omega
   case rel=>exact ⟨(wrap64 (x5_1-1)),zs,H',⟨by have:=HK1.out;omega⟩,by repeat (first|exact Drawn0.refl _|apply Drawn0.step)⟩
section
def YS.f (l0:List Int):Option (List Int):=if l0.length<17592186044416 then some l0 else none
theorem YS.calls (A0:Option Addr) (c0:Nat) (l0:List Int) (r:List Int) (w:World) (hr0:Kd.C (Kd.int .i64) w A0 l0.length l0) (hc0:l0.length≤c0) (h:YS.f l0=some r) :
  Calls Tryz.prog 160 #[.slice A0 l0.length c0] w fun e w'=>∃ v0_:Value,e = .returned (v0_)∧Kd.R (Kd.int .i64) 3 w' w.heap.size (fun _=>True) v0_ r∧Below w.heap.size w w':=by
 unfold YS.f at h
 by_cases c2:l0.length<17592186044416
 case neg=>rw [if_neg c2] at h;cases h
 rw [if_pos c2] at h
 obtain rfl:=Option.some.inj h
 clear h
 cases A0 with
 | none =>
  have hz:l0=[]:=by
   rcases Nat.eq_zero_or_pos l0.length with h0|h0
   ·exact List.eq_nil_of_length_eq_zero h0
   ·obtain ⟨ad,e,_⟩:=hr0.2.2 h0;cases e
  subst hz
  have hnil:=fun (W:World)=>Lib.run_eql_slice_nil (P:=Tryz.prog) W 65 3 none 0 c0 0 0 underlying65
  clear hr0 hc0 c2
  go_enter func160,ntmps160
  go_wp2
  go_ret
  exact ⟨_,rfl,Kd.R_nil _ _ _ _ _,Below.refl _ _⟩
 | some ad =>
  have HR0:=aZ hr0
  clear hr0 hc0
  have hnil:=fun (W:World) (n:Nat)=>Lib.run_eql_slice_nil (P:=Tryz.prog) W 65 3 (some ad) n c0 0 0 underlying65
  have HB:=aZ (Below.refl w.heap.size w)
  have LMc2:=aZ c2
  clear c2
  have info97c:(Tryz.prog.info? 3).map (fun i=>(i.zero,i.size,i.bytes))=some (some (.int .i64 0),1,8):=by kernel_rfl
  have I:=aZ info97c
  clear info97c
  go_enter func160,ntmps160
  go_wp2_with (first|((with_reducible refine gate_dst (N:=5) rfl ?_);refine Kd.R_lit (Kd.int .i64) _ 3 ?hg (N:=5) ?hd (xs:=([]:List Int)) (inner:=[]) (ok:=fun _=>True) (okp:=fun _=>True) ?hr ?hp (fun _ hk=>hk) trivial (Below.refl _ _) (Nat.le_refl _) (by simp) ?_;(case hd=>rfl);(case hg=>rfl);(case hr=>first|(go_simp;done)|(go_simp;rfl));(case hp=>exact (Reps.none _ _));intro v102 w3 ho4 hb hg_ hnew_;clear hg_ hnew_;have HO103:=aZ (Kd.R_lower ho4 bs);replace HB:=sB hb;clear hb ho4)|((with_reducible refine gate_builtin (b:=.append) (xs:=#[.tmp 5,.tmp 6]) rfl ?_);at_builtin;refine Kd.R_append_rows (Kd.int .i64) (w0:=w) w.heap.size rfl (.tmp 5) (.tmp 6) 65 3 (.int .i64 0) 8 rfl underlying65 I.out rfl (by decide) (by omega) v102 ([]:List Int) l0 _ _ _ (fun _=>True) (fun _=>False) rfl rfl ?aO ?aR (fun _ _ h=>h) (fun _ h=>h.elim) ?aF ?aB ?aS ?aL ?_;(case aR=>exact zC (Kd.C_below HR0.out HB.out));(case aB=>exact bw);(case aF=>exact (fun _ _=>trivial));(case aO=>exact (zR HO103));(case aS=>exact bs);(case aL=>have:=LMc2.out;simp;omega);intro v105 w5 ho hb hg hat;rw [List.nil_append] at ho;replace HB:=aZ (hb);have HO106:=aZ (ho);clear HO103;clear ho hb hg hat))
  go_ret
  exact ⟨_,rfl,zR HO106,bw⟩
end
section
def Y2.bs (k:Nat) (b r:List Int):Nat→Int→Int→Option Int
 | 0,_,_=>none
 | m+1,lo,hi=>if lo<hi then (Y7.f k ((lo+hi+1)/2)).bind fun t=>(Y3.f k b t).bind fun p=>(Y9.f k p r).bind fun c=>if c≤0 then Y2.bs k b r m ((lo+hi+1)/2) hi else Y2.bs k b r m lo ((lo+hi+1)/2-1) else some lo
def Y2.lp (k:Nat) (a b:List Int):Nat→List Int→List Int→Option (List Int×List Int)
 | 0,r,q=>some (q,r)
 | i+1,r,q=>(YS.f r).bind fun r'=>(Y4.f k (rd a (i:Int) :: r')).bind fun r1=>(Y2.bs k b r1 10000 0 9999).bind fun low =>
  if low > 0 then (Y7.f k low).bind fun t=>(Y3.f k b t).bind fun p=>(Ya.f k r1 p (-1)).bind fun r2=>Y2.lp k a b i r2 (low :: q)
  else Y2.lp k a b i r1 (low :: q)
def Y2.f (k:Nat) (l0:List Int) (l1:List Int):Option (List Int×List Int) :=
 if l0.length<1000000000∧l1.length<1000000000 then (Y9.f k l0 l1).bind fun c =>
  if c<0 then some ([],l0)
  else if 1≤l1.length∧l1.length≤l0.length then (YS.f (l0.drop (l0.length-l1.length+1))).bind fun r'=>(Y4.f k r').bind fun r0 =>
   (Y2.lp k l0 l1 (l0.length-l1.length+1) r0 []).bind fun z=>(Y4.f k z.1).bind fun q=>some (q,z.2)
  else none
 else none
theorem Y2.mono_bs (k:Nat) (b r:List Int):∀ m lo hi,LeO (Y2.bs k b r m lo hi) (Y2.bs (k+1) b r m lo hi)
 | 0,_,_=>LeO.refl _
 | m+1,lo,hi=>LeO.ite (LeO.bind (Y7.mono _ k) fun _=>LeO.bind (Y3.mono _ _ k) fun _=>LeO.bind (Y9.mono _ _ k) fun _=>LeO.ite (Y2.mono_bs k b r m _ _) (Y2.mono_bs k b r m _ _)) (LeO.refl _)
theorem Y2.mono_lp (k:Nat) (a b:List Int):∀ i r q,LeO (Y2.lp k a b i r q) (Y2.lp (k+1) a b i r q)
 | 0,_,_=>LeO.refl _
 | i+1,r,q=>LeO.bind (LeO.refl _) fun _=>LeO.bind (Y4.mono _ k) fun _=>LeO.bind (Y2.mono_bs k b _ _ _ _) fun _=>LeO.ite (LeO.bind (Y7.mono _ k) fun _=>LeO.bind (Y3.mono _ _ k) fun _=>LeO.bind (Ya.mono _ _ _ k) fun _=>Y2.mono_lp k a b i _ _) (Y2.mono_lp k a b i _ _)
theorem Y2.less_ (k:Nat) (P0_:Nat→Prop) (A0:Option Addr) (c0:Nat) (l0:List Int) (A1:Option Addr) (c1:Nat) (l1:List Int) (c:Int) (w:World) (hs0:Kd.V (Kd.int .i64) 3 w w.heap.size (fun k_=>P0_ k_) (.slice A0 l0.length c0) l0) (hr1:Kd.C (Kd.int .i64) w A1 l1.length l1) (hc1:l1.length≤c1) (hc:Y9.f k l0 l1=some c) (hlt:c<0) :
  Calls Tryz.prog 134 #[.slice A0 l0.length c0,.slice A1 l1.length c1] w fun e w'=>∃ v0_ v1_:Value,e = .returned (.tuple #[v0_,v1_])∧Kd.V (Kd.int .i64) 3 w' w.heap.size (fun k_=>(P0_ k_∨w.heap.size≤k_)) v0_ []∧Kd.V (Kd.int .i64) 3 w' w.heap.size (fun k_=>(P0_ k_∨w.heap.size≤k_)) v1_ l0∧Below w.heap.size w w':=by
 have hcmp:=fun (W:World) (h0:Kd.C (Kd.int .i64) W A0 l0.length l0) (h1:Kd.C (Kd.int .i64) W A1 l1.length l1)=>Y9.calls k A0 c0 l0 A1 c1 l1 c W h0 (Kd.V_reads' hs0).2.1 h1 hc1 hc
 have HS0:=aZ hs0
 have HR1:=aZ hr1
 have c3b0:decide (c<0)=true:=decide_eq_true hlt
 have HB:=aZ (Below.refl w.heap.size w)
 clear hs0 hr1 hc1 hc hlt
 go_enter func134,ntmps134
 go_wp2_with (first
  | (go_at_call 120;(with_reducible refine (hcmp _ ?s1 ?s2).mono ?_);(case s1=>exact (Kd.V_reads' HS0.out).2.2);(case s2=>exact HR1.out);clear hcmp;rintro e w' ⟨rfl,⟨nd,rfl⟩⟩;have HB1:=aZ (pw_below_drewN HB.out nd))
  | fail)
 go_ret2
 exact ⟨_,_,rfl,Kd.V_nil _ _ _ _ _,Kd.V_mono (Kd.V_drewN HS0.out nd) (fun _ h=>.inl h),HB1.out⟩
theorem Y2.big_ (k:Nat) (P0_:Nat→Prop) (A0:Option Addr) (c0:Nat) (l0:List Int) (A1:Option Addr) (c1:Nat) (l1:List Int) (c:Int) (r' r0 z1 z2 q:List Int) (w:World) (hs0:Kd.V (Kd.int .i64) 3 w w.heap.size (fun k_=>P0_ k_) (.slice A0 l0.length c0) l0) (hr1:Kd.C (Kd.int .i64) w A1 l1.length l1) (hc1:l1.length≤c1) (hc:Y9.f k l0 l1=some c) (hlt:¬ c<0)
  (hl1:1≤l1.length) (hle:l1.length≤l0.length) (hbig:l0.length<1000000000) (hcl:YS.f (l0.drop (l0.length-l1.length+1))=some r') (htd:Y4.f k r'=some r0) (hlp:Y2.lp k l0 l1 (l0.length-l1.length+1) r0 []=some (z1,z2)) (hq:Y4.f k z1=some q) :
  Calls Tryz.prog 134 #[.slice A0 l0.length c0,.slice A1 l1.length c1] w fun e w'=>∃ v0_ v1_:Value,e = .returned (.tuple #[v0_,v1_])∧Kd.V (Kd.int .i64) 3 w' w.heap.size (fun k_=>(P0_ k_∨w.heap.size≤k_)) v0_ q∧Kd.V (Kd.int .i64) 3 w' w.heap.size (fun k_=>(P0_ k_∨w.heap.size≤k_)) v1_ z2∧Below w.heap.size w w':=by
 have hc0:=(Kd.V_reads' hs0).2.1
 have hr0:=(Kd.V_reads' hs0).2.2
 have hcmp:=fun (W:World) (h0:Kd.C (Kd.int .i64) W A0 l0.length l0) (h1:Kd.C (Kd.int .i64) W A1 l1.length l1)=>Y9.calls k A0 c0 l0 A1 c1 l1 c W h0 hc0 h1 hc1 hc
 obtain ⟨d1,hd1⟩:∃ j:Int,wrap64 ((l0.length:Int)-(l1.length:Int))=j:=⟨_,rfl⟩
 have ed1:d1=((l0.length-l1.length:Nat):Int):=by rw [← hd1];unfold wrap64;omega
 obtain ⟨d2,hd2⟩:∃ j:Int,wrap64 (d1+1)=j:=⟨_,rfl⟩
 have ed2:d2=((l0.length-l1.length+1:Nat):Int):=by rw [← hd2];unfold wrap64;omega
 have hd1w:IntKind.i64.wrap ((l0.length:Int)-(l1.length:Int))=d1:=(i64_w _).trans hd1
 have hd2w:IntKind.i64.wrap (d1+1)=d2:=(i64_w _).trans hd2
 have info3c:(Tryz.prog.info? 3).map (fun i=>(i.zero,i.size,i.bytes))=some (some (.int .i64 0),1,8):=by kernel_rfl
 obtain ⟨i0,hi0,_,hsz0,_⟩:=info_parts info3c
 have hcut:=cut_from (P:=Tryz.prog) 65 3 .i64 underlying65 hi0 1 hsz0 A0 l0.length c0 d2 (by omega) (by omega)
 obtain ⟨y0,hy0⟩:∃ y:List Int,y=l0.drop (l0.length-l1.length+1):=⟨_,rfl⟩
 obtain ⟨A0',hA0'⟩:∃ A:Option Addr,A=(if c0=d2.toNat then A0 else A0.map (·.add (d2.toNat*1))):=⟨_,rfl⟩
 have hy0l:y0.length=l0.length-d2.toNat:=by rw [hy0,List.length_drop];omega
 rw [← hA0',← hy0l] at hcut
 have hC0:=fun (W:World) (h:Kd.C (Kd.int .i64) W A0 l0.length l0)=>Kd.C_drop (m:=d2.toNat) h (by omega) hc0
 have hC0':∀ (W:World),Kd.C (Kd.int .i64) W A0 l0.length l0→Kd.C (Kd.int .i64) W A0' y0.length y0:=by
  intro W h
  have:=hC0 W h
  rw [hA0',hy0,show l0.length-l1.length+1=d2.toNat by omega]
  exact this
 rw [← hy0] at hcl
 have hclone:=fun (W:World) (h0:Kd.C (Kd.int .i64) W A0' y0.length y0)=>YS.calls A0' (c0-d2.toNat) y0 r' W h0 (by omega) hcl
 have htidy:=fun (A:Option Addr) (c:Nat) (W:World) (h0:Kd.V (Kd.int .i64) 3 W W.heap.size (fun b=>w.heap.size≤b) (.slice A r'.length c) r')=>Y4.calls k (fun b=>w.heap.size≤b) A c r' r0 W h0 htd
 have c3b0:decide (c<0)=false:=decide_eq_false hlt
 have HS0:=aZ hs0
 have HR0:=aZ hr0
 have HR1:=aZ hr1
 have HC0:=aZ hC0'
 have HLP:=aZ hlp
 have HLE:=aZ hle
 have HC1:=aZ hc1
 have HL1X:=aZ hl1
 have HBIG:=aZ hbig
 have HQ:=aZ hq
 have HD:=aZ ed1
 have HB:=aZ (Below.refl w.heap.size w)
 clear hs0 hr0 hr1 hc0 hc1 hc hlt hcl htd hlp hle hbig hq ed2 ed1 hi0 hsz0 info3c hy0 hA0' hC0 hC0' hl1 hy0l
 go_enter func134,ntmps134
 go_wp2_with (first
  | (go_at_call 120;(with_reducible refine (hcmp _ ?s1 ?s2).mono ?_);(case s1=>exact HR0.out);(case s2=>exact HR1.out);clear hcmp;rintro e w' ⟨rfl,⟨nd,rfl⟩⟩;have HB1:=aZ (pw_below_drewN HB.out nd))
  | (go_at_call 160;(with_reducible refine (hclone _ ?s3).mono ?_);(case s3=>exact HC0.out _ (Kd.C_drewN HR0.out _));clear hclone;rintro e w5 ⟨v5,rfl,hv,hb⟩;obtain ⟨A5,c5,e5⟩:=Kd.R_slice hv;subst e5;have HB5:=aZ (below_step HB1.out hb);have HV5:=aZ (Kd.R_V (base':=w.heap.size) (Kd.R_mono (ok':=fun b=>w.heap.size≤b) (Kd.R_bound hv) (fun _ hk=>Nat.le_trans HB1.out.size hk.2.1)));clear hv hb)
  | (go_at_call 141;(with_reducible refine (htidy _ _ _ ?s4).mono ?_);(case s4=>exact HV5.out);clear htidy;rintro e w6 ⟨v6,rfl,hv,hb⟩;have HB6:=aZ (below_step HB5.out hb);have HV6:=aZ (Kd.V_lower (base':=w.heap.size) (Kd.V_mono (ok':=fun b=>w.heap.size≤b) hv (fun _ hk=>hk.elim id (fun h=>Nat.le_trans HB5.out.size h))) HB5.out.size);clear hv hb)
  | fail)
 clear HC0 HB1 HV5 HB5 HB
 go_loopg [6,8,9] (l0.length-l1.length+1) (fun kq v6 v8 v9 w'=>∃ (i:Nat) (r q_:List Int),v9 = .int .i64 ((i:Int)-1)∧Aside0 (Y2.lp k l0 l1 i r q_=some (z1,z2))∧Aside0 (i≤kq)∧Aside0 (q_.length+i=l0.length-l1.length+1)∧Aside0 (Kd.R (Kd.int .i64) 3 w' w.heap.size (fun _=>True) v6 q_)∧Aside0 (Kd.V (Kd.int .i64) 3 w' w.heap.size (fun b=>w.heap.size≤b∧some b≠v6.ownBlock) v8 r)∧Aside0 (Below w.heap.size w w'))
 case atStart=>exact ⟨l0.length-l1.length+1,r0,[],by rw [HD.out];congr 1;omega,HLP,⟨Nat.le_refl _⟩,⟨by simp⟩,⟨Kd.R_nil _ _ _ _ _⟩,⟨Kd.V_apart_nil HV6.out⟩,HB6⟩
 case round =>
  obtain ⟨i,r,q_,rfl,HL,HI,HQL,HR,HV,HB⟩:=hrel
  clear HLP HV6 HB6
  obtain ⟨Ar,cr,er⟩:=Kd.V_slice HV.out
  subst er
  cases i with
  | zero =>
   have hz:=HL.out
   simp only [Y2.lp,Option.some.injEq,Prod.mk.injEq] at hz
   obtain ⟨rfl,rfl⟩:=hz
   clear HL
   have hq:=HQ.out
   obtain ⟨Aq,cq,eq⟩:=Kd.R_slice HR.out
   subst eq
   have htidy:=fun (W:World) (h0:Kd.V (Kd.int .i64) 3 W W.heap.size (fun b=>w.heap.size≤b) (.slice Aq q_.length cq) q_)=>Y4.calls k (fun b=>w.heap.size≤b) Aq cq q_ q W h0 hq
   clear hq hd1 hd2 hd1w hd2w hcut c3b0
   go_wp2_with (first
    | (go_at_call 141;(with_reducible refine (htidy _ ?s9).mono ?_);(case s9=>exact Kd.R_V (Kd.R_mono (Kd.R_bound HR.out) (fun _ hk=>hk.2.1)));clear htidy;rintro e w9 ⟨v9,rfl,hv,hb⟩;have HV9:=aZ hv;have HB9:=aZ (below_step HB.out hb);have HVr:=aZ (Kd.V_below HV.out hb);clear hv hb)
    | fail)
   go_ret2
   exact ⟨_,_,rfl,Kd.V_mono HV9.out (fun b hb=>.inr (hb.elim id (fun h=>Nat.le_trans HB.out.size h))),Kd.V_mono HVr.out (fun b hb=>.inr hb.1),HB9.out⟩
  | succ i =>
   have ej:(((i+1:Nat):Int)-1)=(i:Int):=by omega
   rw [ej]
   have hl:=HL.out
   simp only [Y2.lp] at hl
   obtain ⟨rc,hrc,hl⟩:=Option.bind_eq_some_iff.1 hl
   obtain ⟨r1,hr1',hl⟩:=Option.bind_eq_some_iff.1 hl
   obtain ⟨low,hlow,hl⟩:=Option.bind_eq_some_iff.1 hl
   have hrcl:rc=r∧r.length<17592186044416:=by
    unfold YS.f at hrc
    split at hrc
    ·exact ⟨(Option.some.inj hrc).symm,by assumption⟩
    ·cases hrc
   have hiL:i<l0.length:=by have:=HQL.out;have:=HLE.out;have:=HL1X.out;omega
   obtain ⟨ad,ead,hx⟩:=Kd.at_int HR0.out (i:Int) (by omega) (by omega)
   subst ead
   rw [Int.toNat_natCast] at hx
   have hxr:=(HB.out.cell (World.block_lt_of_cell? w _ hx)).trans hx
   have hb64:(i:Int)<(l0.length:Int):=by omega
   have hbI:((i:Int)<(l0.length:Int))=True:=eq_true (by omega)
   have hbN:(i<l0.length)=True:=eq_true (by omega)
   have hclone:=fun (W:World) (h0:Kd.C (Kd.int .i64) W Ar r.length r)=>YS.calls Ar cr r rc W h0 (Kd.V_reads' HV.out).2.1 hrc
   obtain ⟨y1,hy1⟩:∃ y:List Int,rd l0 (i:Int) :: rc=y:=⟨_,rfl⟩
   rw [hy1] at hr1'
   have HY1:=aZ hy1
   clear hy1
   have htidy:=fun (A:Option Addr) (c:Nat) (W:World) (h0:Kd.V (Kd.int .i64) 3 W W.heap.size (fun b=>wr.heap.size≤b) (.slice A y1.length c) y1)=>Y4.calls k (fun b=>wr.heap.size≤b) A c y1 r1 W h0 hr1'
   have HL1:=aZ hl
   have HLOW:=aZ hlow
   have HRCL:=aZ hrcl
   clear hl hlow hrc hr1' hrcl HL hiL hx hd1 hd2 hd1w hd2w hcut c3b0 hb64
   go_wp2_with (fail)
   go_region_held3 (fun w'=>w'.cell? (ad.add i)=some (.int .i64 (rd l0 (i:Int)))) (first|(with_reducible exact hx7)|(with_reducible exact hx6)|(with_reducible exact hk5)|(with_reducible exact hxr)|(exact hxr)|(exact pw_cell_below (below_alloc (Below.refl _ _) _) hk5)|(exact pw_cell_below (below_alloc (Below.refl _ _) _) hxr))
    (first
     | (go_at_call 160;(refine (hclone _ (by (with_reducible repeat (first|apply Kd.C_alloc|apply Kd.C_drewN|apply Kd.C_drew));exact (Kd.V_reads' HV.out).2.2)).mono ?_);rintro e w5 ⟨v5,rfl,hv5_,hb5_⟩;have hb5:Below wr.heap.size wr w5:=below_step (by repeat (first|exact Below.refl _ _|apply below_alloc|apply pw_below_drewN|apply below_drew)) hb5_;have hv5:Kd.R (Kd.int .i64) 3 w5 wr.heap.size (fun _=>True) v5 rc:=Kd.R_lower hv5_ (below_size (by repeat (first|exact Below.refl _ _|apply below_alloc|apply pw_below_drewN|apply below_drew)));have hk5:=pw_cell_below hb5 hxr)
     | (go_at_call 161;have hA:Kd.R (Kd.int .i64) 3 (w5.alloc (.cells #[.int .i64 (rd l0 (i:Int))] 3)) w.heap.size (fun _=>True) v5 rc:=Kd.R_alloc (Kd.R_lower hv5 HB.out.size) _;have hBq:v5.ownBlock≠some w5.heap.size:=(fun e_=>absurd (own_lt (Kd.own_of_R hv5) _ e_) (Nat.lt_irrefl _));have hCq:w.heap.size≤(w5.alloc (.cells #[.int .i64 (rd l0 (i:Int))] 3)).heap.size:=(by have:=HB.out.size;have:=hb5.size;simp;omega);have hDq:rc.length<17592186044416:=(by rw [HRCL.out.1];exact HRCL.out.2);have hEq:=blk_new w5 (.cells #[.int .i64 (rd l0 (i:Int))] 3);(with_reducible refine (Ins.ins w.heap.size v5 rc (rd l0 (i:Int)) w5.heap.size (w5.alloc (.cells #[.int .i64 (rd l0 (i:Int))] 3)) hA hEq hBq hCq hDq).mono ?_);clear hA hBq hCq hDq hEq;rintro e w6 ⟨v6,rfl,hr6,hg6,ha6⟩;rw [HY1.out] at hr6;have hB6:Below wr.heap.size wr w6:=(hb5.alloc hb5.size _).grown hg6 (by have:=hb5.size;simp;omega) (own_base (Kd.own_of_R hv5));have hk6:∀ b,v6.ownBlock=some b→wr.heap.size≤b:=(fun b hb=>by rcases ha6 with ha6|⟨b',ha6,hb'⟩;(rw [ha6] at hb;exact own_base (Kd.own_of_R hv5) _ hb);(rw [ha6] at hb;injection hb with hb;have:=hb5.size;simp at hb';omega));obtain ⟨A6,c6,e6⟩:=Kd.R_slice hr6;subst e6;have hx6:=pw_cell_below hB6 hxr;clear hg6 ha6 hv5 hb5 hk5 hv5_ hb5_)
     | (go_at_call 161;have hA:Kd.R (Kd.int .i64) 3 w5 w.heap.size (fun _=>True) v5 rc:=Kd.R_lower hv5 HB.out.size;have hEq:w5.heap[wr.heap.size]? = some (.cells #[.int .i64 (rd l0 (i:Int))] 3 (0,0)):=(hb5_.block _ (by simp)).trans (blk_new wr _);have hFq:wr.heap.size+1≤w5.heap.size:=(by have:=hb5_.size;simp at this;omega);have hOq:∀ b,v5.ownBlock=some b→wr.heap.size+1≤b:=(fun b hb=>by have:=own_base (Kd.own_of_R hv5_) b hb;simp at this;omega);have hBq:v5.ownBlock≠some wr.heap.size:=(fun e_=>by have:=hOq _ e_;omega);have hCq:w.heap.size≤w5.heap.size:=(by have:=HB.out.size;omega);have hDq:rc.length<17592186044416:=(by rw [HRCL.out.1];exact HRCL.out.2);(with_reducible refine (Ins.ins w.heap.size v5 rc (rd l0 (i:Int)) wr.heap.size w5 hA hEq hBq hCq hDq).mono ?_);clear hA hBq hCq hDq hEq;rintro e w6 ⟨v6,rfl,hr6,hg6,ha6⟩;rw [HY1.out] at hr6;have hB6:Below wr.heap.size wr w6:=hb5.grown hg6 hb5.size (fun b hb=>by have:=hOq b hb;omega);have hk6:∀ b,v6.ownBlock=some b→wr.heap.size≤b:=(fun b hb=>by rcases ha6 with ha6|⟨b',ha6,hb'⟩;(rw [ha6] at hb;have:=hOq b hb;omega);(rw [ha6] at hb;injection hb with hb;have:=hb5.size;omega));obtain ⟨A6,c6,e6⟩:=Kd.R_slice hr6;subst e6;have hx6:=pw_cell_below hB6 hxr;clear hg6 ha6 hv5 hb5 hk5 hv5_ hb5_ hOq hFq)
     | (go_at_call 141;have hT1:=Kd.R_tight rfl hr6;have hT2:=Kd.R_mono (ok':=fun b=>wr.heap.size≤b) hT1 (fun b hb=>hk6 b hb.symm);have hT:Kd.V (Kd.int .i64) 3 w6 w6.heap.size (fun b=>wr.heap.size≤b) (.slice A6 y1.length c6) y1:=Kd.R_V hT2;refine (htidy A6 c6 w6 hT).mono ?_;clear hT1 hT2 hT;rintro e w7 ⟨v7,rfl,hv7,hb7⟩;have hB7:Below wr.heap.size wr w7:=below_then hB6 hB6.size hb7;have hx7:=pw_cell_below hB7 hxr;replace hv7:Kd.V (Kd.int .i64) 3 w7 w.heap.size (fun b=>wr.heap.size≤b) v7 r1:=Kd.V_lower (base':=w.heap.size) (Kd.V_mono (ok':=fun b=>wr.heap.size≤b) hv7 (fun b hb=>hb.elim id (fun h=>Nat.le_trans hB6.size h))) (Nat.le_trans HB.out.size hB6.size);clear hb7 hB6 hx6 hr6 hk6))
   all_goals
    clear hxr hx7 hclone htidy
    have HB7:=aZ (below_step HB.out hB7)
    have HBr:=aZ hB7
    obtain ⟨A7,c7,e7⟩:=Kd.V_slice hv7
    subst e7
    have HV7:=aZ hv7
    clear hv7 hB7
    have hc1:=HC1.out
    have hc7:=(Kd.V_reads' HV7.out).2.1
    have hof:=fun (x:Int) (t:List Int) (W:World) (ht:Y7.f k x=some t)=>Y7.calls k x t W ht
    have hmul:=fun (t p:List Int) (A:Option Addr) (c:Nat) (W:World) (h0:Kd.C (Kd.int .i64) W A1 l1.length l1) (h1:Kd.C (Kd.int .i64) W A t.length t) (h2:t.length≤c) (hp:Y3.f k l1 t=some p)=>Y3.calls k A1 c1 l1 A c t p W h0 hc1 h1 h2 hp
    have hcm2:=fun (p:List Int) (cc:Int) (A:Option Addr) (c:Nat) (W:World) (h0:Kd.C (Kd.int .i64) W A p.length p) (h2:p.length≤c) (h1:Kd.C (Kd.int .i64) W A7 r1.length r1) (hp:Y9.f k p r1=some cc)=>Y9.calls k A c p A7 c7 r1 cc W h0 h2 h1 hc7 hp
    have hadd:=fun (p r2:List Int) (A:Option Addr) (c:Nat) (W:World) (h0:Kd.C (Kd.int .i64) W A7 r1.length r1) (h1:Kd.C (Kd.int .i64) W A p.length p) (h2:p.length≤c) (hp:Ya.f k r1 p (-1)=some r2)=>Ya.calls k A7 c7 r1 A c p (-1) r2 W h0 hc7 h1 h2 hp
    clear hc1 hc7
    go_wp2_with (fail)
    go_loopg [10,11] 10000 (fun kq v10 v11 w'=>∃ (m:Nat) (lo hi:Int),v10 = .int .i64 lo∧v11 = .int .i64 hi∧Aside0 (Y2.bs k l1 r1 m lo hi=some low)∧Aside0 (m≤kq)∧(0≤lo∧lo≤9999)∧(0≤hi∧hi≤9999)∧Aside0 (Below w7.heap.size w7 w'))
    case atStart=>exact ⟨10000,0,9999,rfl,rfl,HLOW,⟨Nat.le_refl _⟩,⟨by omega,by omega⟩,⟨by omega,by omega⟩,⟨Below.refl _ _⟩⟩
    case round =>
     obtain ⟨m,lo,hi,rfl,rfl,HBS,HM,⟨hlo0,hlo1⟩,⟨hhi0,hhi1⟩,HB8⟩:=hrel
     cases m with
     | zero=>exact absurd HBS.out (by simp [Y2.bs])
     | succ m =>
      have hbs:=HBS.out
      simp only [Y2.bs] at hbs
      clear HBS
      by_cases hlt:lo<hi
      case neg=>
       rw [if_neg hlt] at hbs
       have elo:=Option.some.inj hbs
       subst elo
       clear hbs
       have c45:decide (lo<hi)=false:=decide_eq_false hlt
       have HQ44:=aZ (show q_.length<17592186044416 by have:=HQL.out;have:=HBIG.out;omega)
       have hl1:=HL1.out
       clear HL1 hlt
       by_cases hpos:lo > 0
       case neg=>
        rw [if_neg hpos] at hl1
        have c63:decide (0<lo)=false:=decide_eq_false hpos
        have HL:=aZ hl1
        clear hl1
        go_wp2_with (first
          | (go_at_call 161;have hRx:=Kd.R_below HR.out (below_step HBr.out HB8.out);have hAx:=Kd.R_alloc hRx (.cells #[.int .i64 lo] 3);have hNx:=blk_new wr (.cells #[.int .i64 lo] 3);have hBx:u6.ownBlock≠some wr.heap.size:=(fun e_=>absurd (own_lt (Kd.own_of_R hRx) _ e_) (Nat.lt_irrefl _));have hCx:w.heap.size≤(wr.alloc (.cells #[.int .i64 lo] 3)).heap.size:=(by have:=HB7.out.size;have:=HB8.out.size;simp;omega);(with_reducible refine (Ins.ins w.heap.size u6 q_ lo wr.heap.size (wr.alloc (.cells #[.int .i64 lo] 3)) hAx hNx hBx hCx HQ44.out).mono ?_);clear hAx hNx hBx hCx;rintro e w13 ⟨v13,rfl,hr13,hg13,ha13⟩;have HR13:=aZ hr13;have HG13:=aZ hg13;have HA13:=aZ ha13;clear hr13 hg13 ha13 hRx))
        have hs1:=Kd.own_of_R HR.out
        have hsz1:=HB7.out.size
        have hsz2:=HBr.out.size
        have hsz3:=HB8.out.size
        have hsz5:=HB.out.size
        have HVn:=aZ (show Kd.V (Kd.int .i64) 3 w13 w.heap.size (fun b=>w.heap.size≤b∧some b≠v13.ownBlock) (.slice A7 r1.length c7) r1 from Kd.V_mono (Kd.V_grown (Kd.V_alloc (Kd.V_below (Kd.V_bound HV7.out) HB8.out) _) HG13.out (fun b hb he=>by have:=own_lt hs1 b he.symm;have:=hb.1;omega)) (fun b hb=>⟨by have:=hb.1;omega,fun he=>by
         rcases HA13.out with h|⟨b',h,hb'⟩
         ·rw [h] at he;have:=own_lt hs1 b he.symm;have:=hb.1;omega
         ·rw [h] at he;injection he with he;have:=hb.2;simp at hb';omega⟩))
        have HBn:=aZ (show Below w.heap.size w w13 from (below_alloc (below_step HB7.out HB8.out) _).grown HG13.out (by simp;omega) (fun b hb=>own_base hs1 b hb))
        clear hs1 hsz1 hsz2 hsz3 hsz5
        go_roundg i
        case measure=>have:=HI.out;omega
        case rel=>exact ⟨i,r1,lo :: q_,congrArg (Value.int .i64) (show wrap64 ((i:Int)-1)=(i:Int)-1 by unfold wrap64;have:=HQL.out;have:=HBIG.out;omega),HL,⟨Nat.le_refl _⟩,⟨by have:=HQL.out;simp;omega⟩,HR13,HVn,HBn⟩
       rw [if_pos hpos] at hl1
       have c63:decide (0<lo)=true:=decide_eq_true hpos
       obtain ⟨t,ht,hl1⟩:=Option.bind_eq_some_iff.1 hl1
       obtain ⟨p,hp,hl1⟩:=Option.bind_eq_some_iff.1 hl1
       obtain ⟨r2,hr2,hl1⟩:=Option.bind_eq_some_iff.1 hl1
       have HT:=aZ ht
       have HP:=aZ hp
       have HR2:=aZ hr2
       have HL:=aZ hl1
       clear ht hp hr2 hl1
       go_wp2_with (first
         | (go_at_call 98;(with_reducible refine (hof lo t _ HT.out).mono ?_);rintro e w8 ⟨v8,rfl,hv,hb⟩;obtain ⟨At,ct,et⟩:=Kd.R_slice hv;subst et;have HT8:=aZ (Kd.R_reads' hv);have HB9:=aZ (below_step HB8.out hb);clear hv hb)
         | (go_at_call 112;(with_reducible refine (hmul t p At ct _ (Kd.C_below HR1.out (below_step HB7.out HB9.out)) HT8.out.2.2 HT8.out.2.1 HP.out).mono ?_);rintro e w9 ⟨v9,rfl,hv,hb⟩;obtain ⟨Ap,cp,ep⟩:=Kd.V_slice hv;subst ep;have HP9:=aZ (Kd.V_reads' hv);have HB10:=aZ (below_step HB9.out hb);clear hv hb)
         | (go_at_call 119;(with_reducible refine (hadd p r2 Ap cp _ (Kd.C_below (Kd.V_reads' HV7.out).2.2 HB10.out) HP9.out.2.2 HP9.out.2.1 HR2.out).mono ?_);rintro e w12 ⟨v12,rfl,hv,hb⟩;have HV12:=aZ (Kd.V_bound hv);have HB12:=aZ (below_step HB10.out hb);clear hv hb)
         | (go_at_call 161;have hRx:=Kd.R_below HR.out (below_step HBr.out HB12.out);have hAx:=Kd.R_alloc hRx (.cells #[.int .i64 lo] 3);have hNx:=blk_new w12 (.cells #[.int .i64 lo] 3);have hBx:u6.ownBlock≠some w12.heap.size:=(fun e_=>absurd (own_lt (Kd.own_of_R hRx) _ e_) (Nat.lt_irrefl _));have hCx:w.heap.size≤(w12.alloc (.cells #[.int .i64 lo] 3)).heap.size:=(by have:=HB7.out.size;have:=HB12.out.size;simp;omega);(with_reducible refine (Ins.ins w.heap.size u6 q_ lo w12.heap.size (w12.alloc (.cells #[.int .i64 lo] 3)) hAx hNx hBx hCx HQ44.out).mono ?_);clear hAx hNx hBx hCx;rintro e w13 ⟨v13,rfl,hr13,hg13,ha13⟩;have HR13:=aZ hr13;have HG13:=aZ hg13;have HA13:=aZ ha13;clear hr13 hg13 ha13 hRx))
       have hs1:=Kd.own_of_R HR.out
       have hsz1:=HB7.out.size
       have hsz2:=HBr.out.size
       have hsz3:=HB12.out.size
       have hsz4:=HB10.out.size
       have hsz5:=HB.out.size
       have HVn:=aZ (show Kd.V (Kd.int .i64) 3 w13 w.heap.size (fun b=>w.heap.size≤b∧some b≠v13.ownBlock) v12 r2 from Kd.V_lower (base':=w.heap.size) (Kd.V_mono (Kd.V_grown (Kd.V_alloc HV12.out _) HG13.out (fun b hb he=>by have:=own_lt hs1 b he.symm;have:=hb.1;omega)) (fun b hb=>⟨by have:=hb.1;omega,fun he=>by
        rcases HA13.out with h|⟨b',h,hb'⟩
        ·rw [h] at he;have:=own_lt hs1 b he.symm;have:=hb.1;omega
        ·rw [h] at he;injection he with he;have:=hb.2;simp at hb';omega⟩)) (by omega))
       have HBn:=aZ (show Below w.heap.size w w13 from (below_alloc (below_step HB7.out HB12.out) _).grown HG13.out (by simp;omega) (fun b hb=>own_base hs1 b hb))
       clear hs1 hsz1 hsz2 hsz3 hsz4 hsz5
       go_roundg i
       case measure=>have:=HI.out;omega
       case rel=>exact ⟨i,r2,lo :: q_,congrArg (Value.int .i64) (show wrap64 ((i:Int)-1)=(i:Int)-1 by unfold wrap64;have:=HQL.out;have:=HBIG.out;omega),HL,⟨Nat.le_refl _⟩,⟨by have:=HQL.out;simp;omega⟩,HR13,HVn,HBn⟩
      rw [if_pos hlt] at hbs
      have c45:decide (lo<hi)=true:=decide_eq_true hlt
      obtain ⟨md,hmd⟩:∃ x:Int,(lo+hi+1)/2=x:=⟨_,rfl⟩
      have hmd0:0≤md:=by omega
      have hmd1:md≤9999:=by omega
      have HMD:=aZ (show 1≤md by omega)
      rw [hmd] at hbs
      obtain ⟨t,ht,hbs⟩:=Option.bind_eq_some_iff.1 hbs
      obtain ⟨p,hp,hbs⟩:=Option.bind_eq_some_iff.1 hbs
      obtain ⟨cc,hcc,hbs⟩:=Option.bind_eq_some_iff.1 hbs
      have HT:=aZ ht
      have HP:=aZ hp
      have HCC:=aZ hcc
      clear ht hp hcc
      by_cases hc0:cc≤0
      case neg=>
       rw [if_neg hc0] at hbs
       have HBS:=aZ hbs
       have c58:decide (cc≤0)=false:=decide_eq_false hc0
       clear hbs hc0
       go_wp2_with (first
         | (go_at_call 98;(with_reducible refine (hof md t _ HT.out).mono ?_);rintro e w8 ⟨v8,rfl,hv,hb⟩;obtain ⟨At,ct,et⟩:=Kd.R_slice hv;subst et;have HT8:=aZ (Kd.R_reads' hv);have HB9:=aZ (below_step HB8.out hb);clear hv hb)
         | (go_at_call 112;(with_reducible refine (hmul t p At ct _ (Kd.C_below HR1.out (below_step HB7.out HB9.out)) HT8.out.2.2 HT8.out.2.1 HP.out).mono ?_);rintro e w9 ⟨v9,rfl,hv,hb⟩;obtain ⟨Ap,cp,ep⟩:=Kd.V_slice hv;subst ep;have HP9:=aZ (Kd.V_reads' hv);have HB10:=aZ (below_step HB9.out hb);clear hv hb)
         | (go_at_call 120;(with_reducible refine (hcm2 p cc Ap cp _ HP9.out.2.2 HP9.out.2.1 (Kd.C_below (Kd.V_reads' HV7.out).2.2 HB10.out) HCC.out).mono ?_);rintro e w' ⟨rfl,⟨nd2,rfl⟩⟩;have HB11:=aZ (pw_below_drewN HB10.out nd2)))
       go_roundg m
       case measure=>have:=HM.out;omega
       case rel=>exact ⟨m,lo,md-1,rfl,rfl,HBS,⟨Nat.le_refl _⟩,⟨hlo0,hlo1⟩,⟨by have:=HMD.out;omega,by omega⟩,HB11⟩
      rw [if_pos hc0] at hbs
      have HBS:=aZ hbs
      have c58:decide (cc≤0)=true:=decide_eq_true hc0
      clear hbs hc0
      go_wp2_with (first
        | (go_at_call 98;(with_reducible refine (hof md t _ HT.out).mono ?_);rintro e w8 ⟨v8,rfl,hv,hb⟩;obtain ⟨At,ct,et⟩:=Kd.R_slice hv;subst et;have HT8:=aZ (Kd.R_reads' hv);have HB9:=aZ (below_step HB8.out hb);clear hv hb)
        | (go_at_call 112;(with_reducible refine (hmul t p At ct _ (Kd.C_below HR1.out (below_step HB7.out HB9.out)) HT8.out.2.2 HT8.out.2.1 HP.out).mono ?_);rintro e w9 ⟨v9,rfl,hv,hb⟩;obtain ⟨Ap,cp,ep⟩:=Kd.V_slice hv;subst ep;have HP9:=aZ (Kd.V_reads' hv);have HB10:=aZ (below_step HB9.out hb);clear hv hb)
        | (go_at_call 120;(with_reducible refine (hcm2 p cc Ap cp _ HP9.out.2.2 HP9.out.2.1 (Kd.C_below (Kd.V_reads' HV7.out).2.2 HB10.out) HCC.out).mono ?_);rintro e w' ⟨rfl,⟨nd2,rfl⟩⟩;have HB11:=aZ (pw_below_drewN HB10.out nd2)))
      go_roundg m
      case measure=>have:=HM.out;omega
      case rel=>exact ⟨m,md,hi,rfl,rfl,HBS,⟨Nat.le_refl _⟩,⟨hmd0,hmd1⟩,⟨hhi0,hhi1⟩,HB11⟩
set_option maxHeartbeats 2000000 in
theorem Y2.calls (k:Nat) (P0_:Nat→Prop) (A0:Option Addr) (c0:Nat) (l0:List Int) (A1:Option Addr) (c1:Nat) (l1:List Int) (r1:List Int) (r2:List Int) (w:World) (hs0:Kd.V (Kd.int .i64) 3 w w.heap.size (fun k_=>P0_ k_) (.slice A0 l0.length c0) l0) (hr1:Kd.C (Kd.int .i64) w A1 l1.length l1) (hc1:l1.length≤c1) (h:Y2.f k l0 l1=some (r1,r2)) :
  Calls Tryz.prog 134 #[.slice A0 l0.length c0,.slice A1 l1.length c1] w fun e w'=>∃ v0_ v1_:Value,e = .returned (.tuple #[v0_,v1_])∧Kd.V (Kd.int .i64) 3 w' w.heap.size (fun k_=>(P0_ k_∨w.heap.size≤k_)) v0_ r1∧Kd.V (Kd.int .i64) 3 w' w.heap.size (fun k_=>(P0_ k_∨w.heap.size≤k_)) v1_ r2∧Below w.heap.size w w':=by
 unfold Y2.f at h
 by_cases hl:l0.length<1000000000∧l1.length<1000000000
 case neg=>rw [if_neg hl] at h;cases h
 rw [if_pos hl] at h
 obtain ⟨c,hc,h⟩:=Option.bind_eq_some_iff.1 h
 by_cases hlt:c<0
 ·rw [if_pos hlt] at h
  simp only [Option.some.injEq,Prod.mk.injEq] at h
  obtain ⟨rfl,rfl⟩:=h
  exact Y2.less_ k P0_ A0 c0 l0 A1 c1 l1 c w hs0 hr1 hc1 hc hlt
 rw [if_neg hlt] at h
 by_cases h2:1≤l1.length∧l1.length≤l0.length
 case neg=>rw [if_neg h2] at h;cases h
 rw [if_pos h2] at h
 obtain ⟨r',hr',h⟩:=Option.bind_eq_some_iff.1 h
 obtain ⟨r0,hr0,h⟩:=Option.bind_eq_some_iff.1 h
 obtain ⟨⟨z1,z2⟩,hz,h⟩:=Option.bind_eq_some_iff.1 h
 obtain ⟨q,hq,h⟩:=Option.bind_eq_some_iff.1 h
 simp only [Option.some.injEq,Prod.mk.injEq] at h
 obtain ⟨rfl,rfl⟩:=h
 exact Y2.big_ k P0_ A0 c0 l0 A1 c1 l1 c r' r0 z1 _ _ w hs0 hr1 hc1 hc hlt h2.1 h2.2 hl.1 hr' hr0 hz hq
end
def Yx.l0:Nat→List Int→List Int→Option (List Int)
 | 0,_,_=>none
 | k+1,x0,x1=>if (x1.length:Int)>0 then ((Y2.f k x0 x1).bind fun bt434=>(Yx.l0 k x1 bt434.2)) else (some x0)
def Yx.f (k:Nat) (l0:List Int) (l1:List Int):Option (List Int):=Yx.l0 k l0 l1
theorem Yx.calls (k:Nat) (P0_:Nat→Prop) (A0:Option Addr) (c0:Nat) (l0:List Int) (P1_:Nat→Prop) (A1:Option Addr) (c1:Nat) (l1:List Int) (r:List Int) (w:World) (hs0:Kd.V (Kd.int .i64) 3 w w.heap.size (fun k_=>P0_ k_) (.slice A0 l0.length c0) l0) (hs1:Kd.V (Kd.int .i64) 3 w w.heap.size (fun k_=>P1_ k_) (.slice A1 l1.length c1) l1) (h:Yx.f k l0 l1=some r) :
  Calls Tryz.prog 104 #[.slice A0 l0.length c0,.slice A1 l1.length c1] w fun e w'=>∃ v0_:Value,e = .returned (v0_)∧Kd.V (Kd.int .i64) 3 w' w.heap.size (fun k_=>((P0_ k_∨P1_ k_)∨w.heap.size≤k_)) v0_ r∧Below w.heap.size w w':=by
 have HO0:=aZ (show Kd.V (Kd.int .i64) 3 w w.heap.size (fun k_=>((P0_ k_∨P1_ k_)∨w.heap.size≤k_)) (.slice A0 l0.length c0) l0 from Kd.V_mono hs0 (fun k_ hk=>.inl (.inl hk)))
 have HO1:=aZ (show Kd.V (Kd.int .i64) 3 w w.heap.size (fun k_=>((P0_ k_∨P1_ k_)∨w.heap.size≤k_)) (.slice A1 l1.length c1) l1 from Kd.V_mono hs1 (fun k_ hk=>.inl (.inr hk)))
 have HB:=aZ (Below.refl w.heap.size w)
 have H:=h
 unfold Yx.f at H
 clear h
 have H':=aZ H
 clear H
 go_enter func104,ntmps104
 go_wp2
 go_loopg [0,1] k (fun kq v0 v1 w'=>∃ (x0_1:List Int) (x1_1:List Int),Aside0 (Yx.l0 kq x0_1 x1_1=some r)∧Aside0 (kq≤k)∧Aside0 (Kd.V (Kd.int .i64) 3 w' w.heap.size (fun k_=>((P0_ k_∨P1_ k_)∨w.heap.size≤k_)) v0 x0_1)∧Aside0 (Kd.V (Kd.int .i64) 3 w' w.heap.size (fun k_=>((P0_ k_∨P1_ k_)∨w.heap.size≤k_)) v1 x1_1)∧Aside0 (Below w.heap.size w w'))
 case atStart=>exact ⟨(l0),(l1),H',⟨Nat.le_refl _⟩,⟨zV HO0⟩,⟨zV HO1⟩,⟨bw⟩⟩
 case round =>
  clear H'
  try clear c1
  obtain ⟨x0_1,x1_1,HA,HK1,HO_0,HO_1,HB⟩:=hrel
  cases gk with
  | zero=>exact absurd HA.out (by simp [Yx.l0])
  | succ k1 =>
   have H:=HA.out
   clear HA
   simp only [Yx.l0] at H
   by_cases c3:(x1_1.length:Int)>0
   case neg=>
    rw [if_neg c3] at H
    have c3b0:=decide_eq_false c3
    have c3b1:decide (0<x1_1.length)=false:=decide_eq_false (by omega)
    clear c3
    obtain rfl:=Option.some.inj H
    obtain ⟨Ao8,co8,rfl⟩:=Kd.V_slice HO_1.out
    go_wp2
    go_ret
    exact ⟨_,ze,zV HO_0,bw⟩
   rw [if_pos c3] at H
   have c3b0:=decide_eq_true c3
   have c3b1:decide (0<x1_1.length)=true:=decide_eq_true (by omega)
   clear c3
   obtain ⟨⟨t434,t437⟩,A4,H⟩:=zB H
   (try dsimp only at H)
   have H':=aZ H
   clear H
   obtain ⟨Ao5,co5,rfl⟩:=Kd.V_slice HO_1.out
   obtain ⟨Ao6,co6,rfl⟩:=Kd.V_slice HO_0.out
   go_wp2_with (first|(refine zg (some 13) func134 #[.slice Ao6 x0_1.length co6,.slice Ao5 x1_1.length co5] ?_;(with_reducible refine (Y2.calls k1 (fun k_=>((P0_ k_∨P1_ k_)∨w.heap.size≤k_)) _ _ x0_1 _ _ x1_1 t434 t437 _ HO_0.out (zC (Kd.V_reads' HO_1.out).2.2) ((Kd.V_reads' HO_1.out).2.1) A4.out).mono ?_);rintro e w7 ⟨v435,v438,rfl,ho0,ho1,hb⟩;refine ⟨_,rfl,?_⟩;replace HO_0:=yV HO_0 hb;replace HO_1:=yV HO_1 hb;have HO436:=yL (fun k_=>((P0_ k_∨P1_ k_)∨w.heap.size≤k_)) ho0 (fun k_ hk_=>Or.elim hk_ (fun hs_=>hs_) (fun hn_=>(.inr (Nat.le_trans bs hn_))));have HO439:=yL (fun k_=>((P0_ k_∨P1_ k_)∨w.heap.size≤k_)) ho1 (fun k_ hk_=>Or.elim hk_ (fun hs_=>hs_) (fun hn_=>(.inr (Nat.le_trans bs hn_))));replace HB:=sB hb;clear hb ho0 ho1))
   go_roundg k1
   case measure=>have:=HK1.out;omega
   case rel=>exact ⟨(x1_1),(t437),H',⟨by have:=HK1.out;omega⟩,⟨zV HO_1⟩,⟨zV HO439⟩,⟨bw⟩⟩
section
def Y0o.f (a0:ByteArray):Option (Int×Option Int):=if a0.size≤18 then (Lib.atoi a0.data.toList).map (fun n=>(n,none)) else none
theorem Y0o.calls (a0:ByteArray) (r1:Int) (r2:Option Int) (w:World) (h:Y0o.f a0=some (r1,r2)) :
  Calls Tryz.prog 133 #[.string a0] w fun e w'=>e = .returned (.tuple #[.int .i64 r1,errW r2])∧Below w.heap.size w w':=by
 unfold Y0o.f at h
 by_cases c:a0.size≤18
 case neg=>
  rw [if_neg c] at h;cases h
 rw [if_pos c] at h
 obtain ⟨n,hn,he⟩:=Option.map_eq_some_iff.1 h
 obtain ⟨rfl,rfl⟩:=Prod.mk.inj he
 have ha:Lib.atoiAll a0.data.toList = .ok n:=by rw [Lib.atoiAll_short _ (by rw [Array.length_toList];exact c),hn];rfl
 refine (Tryz.strconv_Atoi_ok a0 (Nat.le_trans c (by decide)) n ha w).mono ?_
 rintro e w' ⟨rfl,hw⟩
 refine ⟨rfl,?_⟩
 rcases hw with rfl|⟨t,rfl⟩
 ·exact Below.refl _ _
 ·exact Lib.bytesWorld_below _ _ _
end
def Yi.l0:Nat→ByteArray→List Int→Option (List Int)
 | 0,_,_=>none
 | k+1,x0,x3=>if (x0.size:Int)>0 then (if 0≤(mx 0 (wrap64 ((x0.size:Int)-4))) then (if (mx 0 (wrap64 ((x0.size:Int)-4)))≤(x0.size:Int) then ((Y0o.f (x0.extract ((mx 0 (wrap64 ((x0.size:Int)-4))):Int).toNat x0.size)).bind fun bt440=>(if x3.length<17592186044416 then (Yi.l0 k (x0.extract 0 ((mx 0 (wrap64 ((x0.size:Int)-4))):Int).toNat) (x3++[bt440.1])) else (none))) else (none)) else (none)) else ((Y4.f k x3).bind fun t445=>(some t445))
def Yi.f (k:Nat) (a0:ByteArray):Option (List Int):=Yi.l0 k a0 ([]:List Int)
theorem Yi.calls (k:Nat) (a0:ByteArray) (r:List Int) (w:World) (h:Yi.f k a0=some r) :
  Calls Tryz.prog 105 #[.string a0] w fun e w'=>∃ v0_:Value,e = .returned (v0_)∧Kd.V (Kd.int .i64) 3 w' w.heap.size (fun k_=>(w.heap.size≤k_)) v0_ r∧Below w.heap.size w w':=by
 have HB:=aZ (Below.refl w.heap.size w)
 have H:=h
 unfold Yi.f at H
 clear h
 have H':=aZ H
 clear H
 go_enter func105,ntmps105
 go_wp2
 go_loopg [0,3] k (fun kq v0 v3 w'=>∃ (x0_1:ByteArray) (x3_1:List Int),v0 = .string x0_1∧Aside0 (Yi.l0 kq x0_1 x3_1=some r)∧Aside0 (kq≤k)∧Aside0 (Kd.R (Kd.int .i64) 3 w' w.heap.size (fun k_=>(w.heap.size≤k_)) v3 x3_1)∧Aside0 (Below w.heap.size w w'))
 case atStart=>exact ⟨(a0),(([]:List Int)),zs,H',⟨Nat.le_refl _⟩,⟨by first|exact Kd.R_nil _ _ _ _ _|exact Kd.N_nil _ _ _ _ _|exact Kd.V_nil _ _ _ _ _|exact Kd.Q_nil _ _ _ _ _|exact Kd.S_nil _ _ _ _ _⟩,⟨bw⟩⟩
 case round =>
  clear H'
  try clear c1
  obtain ⟨x0_1,x3_1,rfl,HA,HK1,HO_3,HB⟩:=hrel
  cases gk with
  | zero=>exact absurd HA.out (by simp [Yi.l0])
  | succ k1 =>
   have H:=HA.out
   clear HA
   simp only [Yi.l0] at H
   by_cases c2:(x0_1.size:Int)>0
   case neg=>
    rw [if_neg c2] at H
    have c2b0:=decide_eq_false c2
    have c2b1:decide (0<x0_1.size)=false:=decide_eq_false (by omega)
    clear c2
    obtain ⟨t445,A12,H⟩:=zB H
    obtain rfl:=Option.some.inj H
    obtain ⟨Ao13,co13,rfl⟩:=Kd.R_slice HO_3.out
    go_wp2_with (first|(refine zg (some 29) func141 #[.slice Ao13 x3_1.length co13] ?_;(with_reducible refine (Y4.calls k1 (fun k_=>some k_=(.slice Ao13 x3_1.length co13:Value).ownBlock) _ _ x3_1 t445 _ ?side1 A12.out).mono ?_);(case side1=>exact Kd.R_V (Kd.R_tight rfl (HO_3.out)));rintro e w14 ⟨v446,rfl,ho0,hb⟩;refine ⟨_,rfl,?_⟩;have HO447:=yL (fun k_=>(w.heap.size≤k_)) ho0 (fun k_ hk_=>Or.elim hk_ (fun hs_=>((HO_3.out).1 k_ hs_.symm)) (fun hn_=>(Nat.le_trans bs hn_)));replace HO_3:=yR HO_3 hb;replace HB:=sB hb;clear hb ho0))
    go_ret
    exact ⟨_,ze,zV HO447,bw⟩
   rw [if_pos c2] at H
   have c2b0:=decide_eq_true c2
   have c2b1:decide (0<x0_1.size)=true:=decide_eq_true (by omega)
   clear c2
   obtain ⟨ji3,hji3⟩:∃ j_:Int,(mx 0 (wrap64 ((x0_1.size:Int)-4)))=j_:=⟨_,rfl⟩
   (first|rw [hji3] at H|simp only [hji3] at H)
   have hji3_:(if 0<(wrap64 ((x0_1.size:Int)-4)) then (wrap64 ((x0_1.size:Int)-4)) else 0)=ji3:=hji3
   by_cases c4:0≤(ji3)
   case neg=>
    rw [if_neg c4] at H
    cases H
   rw [if_pos c4] at H
   have c4b0:=eq_true c4
   have c4b1:=decide_eq_true c4
   clear c4
   by_cases c5:(ji3)≤(x0_1.size:Int)
   case neg=>
    rw [if_neg c5] at H
    cases H
   rw [if_pos c5] at H
   have c5b0:=eq_true c5
   have c5b1:=decide_eq_true c5
   clear c5
   obtain ⟨⟨t440,t441⟩,A6,H⟩:=zB H
   (try dsimp only at H)
   by_cases c7:x3_1.length<17592186044416
   case neg=>
    rw [if_neg c7] at H
    cases H
   rw [if_pos c7] at H
   have LMc7:=aZ c7
   clear c7
   obtain ⟨y442,hy442⟩:∃ y_:List Int,y_=(x3_1++[t440]):=⟨_,rfl⟩
   replace H:(Yi.l0 k1 (x0_1.extract 0 ((ji3):Int).toNat) y442)=some r:=zy hy442 H
   have Ny442:=aZ hy442
   clear hy442
   have c8b0:=eq_true (zd:0≤(ji3))
   have c9b0:=eq_true (zd:(ji3)≤(x0_1.size:Int))
   have H':=aZ H
   clear H
   go_wp2_with (first|((with_reducible refine gate_callee (f:=133) rfl ?_);refine goesL_ (some 18) rfl rfl func133 (by kernel_rfl) rfl #[.string (x0_1.extract ((ji3):Int).toNat x0_1.size)] rfl (by (try simp only [List.map_toArray,List.map_cons,List.map_nil]);first|done|(simp only [hji3];rfl)|rfl|(simp only [List.length_drop,List.length_take];rfl)) ?_;(with_reducible refine (Y0o.calls (x0_1.extract ((ji3):Int).toNat x0_1.size) t440 t441 _ A6.out).mono ?_);rintro e w10 ⟨rfl,hb⟩;refine ⟨_,rfl,?_⟩;replace HO_3:=yR HO_3 hb;replace HB:=sB hb;clear hb;(try simp only [errW_none,errW_some]))|((with_reducible refine gate_builtin (b:=.append) (xs:=#[.tmp 21,.tmp 23]) rfl ?_);at_builtin;refine Kd.R_append (Kd.int .i64) (w0:=w) w.heap.size rfl (.tmp 21) (.tmp 23) 65 3 (.int .i64 0) 8 rfl underlying65 info3 rfl (by decide) (by omega) u3 x3_1 t440 [.int .i64 t440] (fun k_=>(w.heap.size≤k_)) (fun _=>False) rfl rfl ?aP (fun _ hk=>hk.elim) ?aF ?aO ?aB ?aS ?aL ?_;(case aP=>exact rfl);(case aB=>exact bw);(case aF=>exact (fun k_ hk=>(Nat.le_trans bs hk)));(case aO=>exact (zR HO_3));(case aS=>exact bs);(case aL=>have:=LMc7.out;omega);intro v443 w11 ho hb hg hat;rw [← Ny442.out] at ho;replace HB:=aZ (hb);have HO444:=aZ (ho);clear HO_3;clear ho hb hg hat))
   go_roundg k1
   case measure=>have:=HK1.out;omega
   case rel=>exact ⟨(x0_1.extract 0 ((ji3):Int).toNat),(y442),(by first|rfl|(simp;done)|(simp only [← hji3] <;> (first|rfl|simp))|(simp [*];done)),H',⟨by have:=HK1.out;omega⟩,⟨zR HO444⟩,⟨bw⟩⟩
def Yb.j0:Nat→ByteArray→Bool→ByteArray→ByteArray→Option (Int)
 | 0,_,_,_,_=>none
 | k+1,x3,x37,x449000,x449001=>if x37=true then (some 3) else ((Yi.f k x3).bind fun t453=>((Yi.f k x449001).bind fun t456=>((Yx.f k t453 t456).bind fun t459=>(if (t459.length:Int)=1 then (if 0<(t459.length:Int) then (if (rd t459 0)=1 then (some 0) else (some 3)) else (none)) else (some 3)))))
def Yb.f (k:Nat) (a0_0:ByteArray) (a0_1:ByteArray):Option (Int):=(YF.f a0_0 (⟨#[45]⟩:ByteArray)).bind fun bt449=>((Ym.f k bt449.1).bind fun t451=>(if t451=true then ((Ym.f k a0_1).bind fun t452=>(if t452=true then (if a0_1.toList=([48]:List UInt8) then (Yb.j0 k bt449.1 true a0_0 a0_1) else (if bt449.1.toList=([48]:List UInt8) then (if bt449.2=true then (Yb.j0 k bt449.1 true a0_0 a0_1) else (Yb.j0 k bt449.1 (a0_1.toList != ([49]:List UInt8)) a0_0 a0_1)) else (Yb.j0 k bt449.1 false a0_0 a0_1))) else (Yb.j0 k bt449.1 true a0_0 a0_1))) else (Yb.j0 k bt449.1 true a0_0 a0_1)))
theorem Yb.calls (k:Nat) (a0_0:ByteArray) (a0_1:ByteArray) (r:Int) (w:World) (h:Yb.f k a0_0 a0_1=some r) :
  Calls Tryz.prog 53 #[.agg #[.string a0_0,.string a0_1]] w fun e w'=>e = .returned (.int .i64 r)∧Below w.heap.size w w':=by
 have hu61:=underlying61
 have HB:=aZ (Below.refl w.heap.size w)
 have H:=h
 unfold Yb.f at H
 clear h
 obtain ⟨⟨t449,t450⟩,A2,H⟩:=zB H
 (try dsimp only at H)
 have HC3:=aZ H
 clear H
 go_enter func53,ntmps53
 go_upto_region 2 with (first|(refine box_ev 1 #[.string a0_0,.string a0_1] 61 ?_;intro gb448 hg w4 hbox hb;have BK448:=aZ hbox;have GE448:=sG hg;replace HB:=sB hb;clear hb hbox hg;obtain ⟨hcz5_0,hfz5_0⟩:=zc BK448 0 (.string a0_0) rfl;obtain ⟨hcz5_1,hfz5_1⟩:=zc BK448 1 (.string a0_1) rfl)|(refine zg (some 9) func102 #[.string a0_0,.string (⟨#[45]⟩:ByteArray)] ?_;(with_reducible refine (YF.calls a0_0 (⟨#[45]⟩:ByteArray) t449 t450 _ A2.out).mono ?_);rintro e w' ⟨rfl,⟨nd,rfl⟩⟩;refine ⟨_,rfl,?_⟩))
 (try simp only [Act.put,List.setIfInBounds_toArray,List.set_cons_zero,List.set_cons_succ])
 go_cut [37] (fun v37 wc=>∃ (kq:Nat) (x37_2:Bool),v37 = .bool x37_2∧Aside0 (Yb.j0 kq t449 x37_2 a0_0 a0_1=some r)∧Aside0 (kq≤k)∧Aside0 (wc.heap[gb448]? = some (.cells #[.string a0_0,.string a0_1] 61 (0,0)))∧Aside0 (Below w.heap.size w wc))
 case first =>
  have H:=HC3.out
  clear HC3
  obtain ⟨t451,A6,H⟩:=zB H
  by_cases c7:t451=true
  case neg=>
   replace c7:=Bool.eq_false_iff.mpr c7
   subst c7
   replace H:=zU H
   have H':=aZ H
   clear H
   go_wp2_with (first|(refine zg (some 13) func103 #[.string t449] ?_;(with_reducible refine (Ym.calls k t449 false _ A6.out).mono ?_);rintro e w' ⟨rfl,⟨nd,rfl⟩⟩;refine ⟨_,rfl,?_⟩))
   go_meet
   case rel=>exact ⟨_,(true),zs,H',⟨by first|omega|exact Nat.le_refl _⟩,⟨zb BK448⟩,⟨bw⟩⟩
  subst c7
  replace H:=zT H
  obtain ⟨t452,A8,H⟩:=zB H
  by_cases c9:t452=true
  case neg=>
   replace c9:=Bool.eq_false_iff.mpr c9
   subst c9
   replace H:=zU H
   have H':=aZ H
   clear H
   go_wp2_with (first|(refine zg (some 13) func103 #[.string t449] ?_;(with_reducible refine (Ym.calls k t449 true _ A6.out).mono ?_);rintro e w' ⟨rfl,⟨nd,rfl⟩⟩;refine ⟨_,rfl,?_⟩;obtain ⟨hcz17_0,hfz17_0⟩:=zc BK448 0 (.string a0_0) rfl;obtain ⟨hcz17_1,hfz17_1⟩:=zc BK448 1 (.string a0_1) rfl)|(go_at_call 103;(with_reducible refine (Ym.calls k a0_1 false _ A8.out).mono ?_);rintro e w' ⟨rfl,⟨nd,rfl⟩⟩))
   go_meet
   case rel=>exact ⟨_,(true),zs,H',⟨by first|omega|exact Nat.le_refl _⟩,⟨zb BK448⟩,⟨bw⟩⟩
  subst c9
  replace H:=zT H
  by_cases c10:a0_1.toList=([48]:List UInt8)
  case neg=>
   rw [if_neg c10] at H
   obtain ⟨c10b0,c10b1⟩:=zX c10
   (first|rw [c10b0]|(simp only [i64_w,i32_w];rw [c10b0])|skip)
   by_cases c12:t449.toList=([48]:List UInt8)
   case neg=>
    rw [if_neg c12] at H
    obtain ⟨c12b0,c12b1⟩:=zX c12
    have H':=aZ H
    clear H
    go_wp2_with (first|(refine zg (some 13) func103 #[.string t449] ?_;(with_reducible refine (Ym.calls k t449 true _ A6.out).mono ?_);rintro e w' ⟨rfl,⟨nd,rfl⟩⟩;refine ⟨_,rfl,?_⟩;obtain ⟨hcz16_0,hfz16_0⟩:=zc BK448 0 (.string a0_0) rfl;obtain ⟨hcz16_1,hfz16_1⟩:=zc BK448 1 (.string a0_1) rfl)|(go_at_call 103;(with_reducible refine (Ym.calls k a0_1 true _ A8.out).mono ?_);rintro e w' ⟨rfl,⟨nd,rfl⟩⟩))
    go_meet
    case rel=>exact ⟨_,(false),zs,H',⟨by first|omega|exact Nat.le_refl _⟩,⟨zb BK448⟩,⟨bw⟩⟩
   rw [if_pos c12] at H
   obtain ⟨c12b0,c12b1⟩:=zY c12
   clear c12
   by_cases c13:t450=true
   case neg=>
    replace c13:=Bool.eq_false_iff.mpr c13
    subst c13
    replace H:=zU H
    have H':=aZ H
    clear H
    go_wp2_with (first|(refine zg (some 13) func103 #[.string t449] ?_;(with_reducible refine (Ym.calls k t449 true _ A6.out).mono ?_);rintro e w' ⟨rfl,⟨nd,rfl⟩⟩;refine ⟨_,rfl,?_⟩;obtain ⟨hcz15_0,hfz15_0⟩:=zc BK448 0 (.string a0_0) rfl;obtain ⟨hcz15_1,hfz15_1⟩:=zc BK448 1 (.string a0_1) rfl)|(go_at_call 103;(with_reducible refine (Ym.calls k a0_1 true _ A8.out).mono ?_);rintro e w' ⟨rfl,⟨nd,rfl⟩⟩))
    go_meet
    case rel=>exact ⟨_,((a0_1.toList != ([49]:List UInt8))),zs,H',⟨by first|omega|exact Nat.le_refl _⟩,⟨zb BK448⟩,⟨bw⟩⟩
   subst c13
   replace H:=zT H
   have H':=aZ H
   clear H
   go_wp2_with (first|(refine zg (some 13) func103 #[.string t449] ?_;(with_reducible refine (Ym.calls k t449 true _ A6.out).mono ?_);rintro e w' ⟨rfl,⟨nd,rfl⟩⟩;refine ⟨_,rfl,?_⟩;obtain ⟨hcz14_0,hfz14_0⟩:=zc BK448 0 (.string a0_0) rfl;obtain ⟨hcz14_1,hfz14_1⟩:=zc BK448 1 (.string a0_1) rfl)|(go_at_call 103;(with_reducible refine (Ym.calls k a0_1 true _ A8.out).mono ?_);rintro e w' ⟨rfl,⟨nd,rfl⟩⟩))
   go_meet
   case rel=>exact ⟨_,(true),zs,H',⟨by first|omega|exact Nat.le_refl _⟩,⟨zb BK448⟩,⟨bw⟩⟩
  rw [if_pos c10] at H
  obtain ⟨c10b0,c10b1⟩:=zY c10
  clear c10
  (first|rw [c10b0]|(simp only [i64_w,i32_w];rw [c10b0])|skip)
  have H':=aZ H
  clear H
  go_wp2_with (first|(refine zg (some 13) func103 #[.string t449] ?_;(with_reducible refine (Ym.calls k t449 true _ A6.out).mono ?_);rintro e w' ⟨rfl,⟨nd,rfl⟩⟩;refine ⟨_,rfl,?_⟩;obtain ⟨hcz11_0,hfz11_0⟩:=zc BK448 0 (.string a0_0) rfl;obtain ⟨hcz11_1,hfz11_1⟩:=zc BK448 1 (.string a0_1) rfl)|(go_at_call 103;(with_reducible refine (Ym.calls k a0_1 true _ A8.out).mono ?_);rintro e w' ⟨rfl,⟨nd,rfl⟩⟩))
  go_meet
  case rel=>exact ⟨_,(true),zs,H',⟨by first|omega|exact Nat.le_refl _⟩,⟨zb BK448⟩,⟨bw⟩⟩
 case rest =>
  clear HC3
  obtain ⟨kq,x37_2,rfl,HA,HJ2,BK448,HB⟩:=hcut
  cases kq with
  | zero=>exact absurd HA.out (by simp [Yb.j0])
  | succ kj2 =>
   have H:=HA.out
   clear HA
   simp only [Yb.j0] at H
   by_cases c18:x37_2=true
   case neg=>
    replace c18:=Bool.eq_false_iff.mpr c18
    subst c18
    replace H:=zU H
    obtain ⟨t453,A19,H⟩:=zB H
    obtain ⟨t456,A20,H⟩:=zB H
    obtain ⟨t459,A21,H⟩:=zB H
    by_cases c22:(t459.length:Int)=1
    case neg=>
     rw [if_neg c22] at H
     obtain ⟨c22b0,c22b1⟩:=zX c22
     obtain rfl:=Option.some.inj H
     try go_wp2
     replace BK448:=aZ (blk_drew BK448.out)
     replace HB:=aZ (below_drew1 HB.out)
     refine start_ (n:=7) (S:=fun w'=>w'.cell? ⟨gb448,0,none⟩=some (.string a0_0)∧w'.cell? ⟨gb448,1,none⟩=some (.string a0_1)) (ds:=[]) #[false,false,false,false,false,false,false] (by kernel_rfl) rfl rfl ⟨zh BK448 0,zh BK448 1⟩ (fun hHeld=>?_)
     generalize wc.drew=w39 at BK448 HB hHeld ⊢
     refine pv 0 (some 38) ?_
     refine pv 2 (some 40) ?_
     refine tv 3 (some 41) hHeld ?_
     refine one_ (i:=1) (N:=some 39) #[true,true,true,true,false,false,false] rfl rfl (by kernel_rfl) (by decide) (fun K hK=>?_)
     refine goes_ func105 (by kernel_rfl) rfl #[.string t449] (by rfl) rfl rfl zm ?_
     with_reducible refine (Yi.calls kj2 t449 t453 _ A19.out).mono ?_
     rintro e w40 ⟨v454,rfl,ho0,hb⟩
     refine ⟨_,rfl,?_⟩
     have HO455:=yL (fun k_=>k_≠gb448) ho0 (fun k_ hk_=>(zf BK448 hk_))
     replace BK448:=sK BK448 hb
     replace HB:=sB hb
     clear hb ho0
     refine hK.out _ _ ⟨zh BK448 0,zh BK448 1⟩ (fun hHeld=>?_)
     clear hK K
     refine nm ?_
     refine one_ (i:=4) (N:=some 42) #[true,true,true,true,true,false,false] rfl rfl (by kernel_rfl) (by decide) (fun K hK=>?_)
     refine goes_ func105 (by kernel_rfl) rfl #[.string a0_1] (by rfl) rfl rfl zm ?_
     with_reducible refine (Yi.calls kj2 a0_1 t456 _ A20.out).mono ?_
     rintro e w41 ⟨v457,rfl,ho0,hb⟩
     refine ⟨_,rfl,?_⟩
     replace HO455:=yV HO455 hb
     have HO458:=yL (fun k_=>k_≠gb448) ho0 (fun k_ hk_=>(zf BK448 hk_))
     replace BK448:=sK BK448 hb
     replace HB:=sB hb
     clear hb ho0
     obtain ⟨Ao42,co42,eo42⟩:=Kd.V_slice HO455.out
     (first|subst eo42|(injection eo42 with f1_ f2_ f3_;have f4_:=f1_.symm;have f5_:=f3_.symm;clear f1_ f2_ f3_;subst f4_;subst f5_))
     obtain ⟨Ao43,co43,eo43⟩:=Kd.V_slice HO458.out
     (first|subst eo43|(injection eo43 with f1_ f2_ f3_;have f4_:=f1_.symm;have f5_:=f3_.symm;clear f1_ f2_ f3_;subst f4_;subst f5_))
     refine hK.out _ _ ⟨zh BK448 0,zh BK448 1⟩ (fun hHeld=>?_)
     clear hK K
     refine nm ?_
     refine one_ (i:=5) (N:=some 43) #[true,true,true,true,true,true,false] rfl rfl (by kernel_rfl) (by decide) (fun K hK=>?_)
     refine goes_ func104 (by kernel_rfl) rfl #[.slice Ao42 t453.length co42,.slice Ao43 t456.length co43] (by rfl) rfl rfl zm ?_
     with_reducible refine (Yx.calls kj2 (fun k_=>k_≠gb448) _ _ t453 (fun k_=>k_≠gb448) _ _ t456 t459 _ HO455.out HO458.out A21.out).mono ?_
     rintro e w44 ⟨v460,rfl,ho0,hb⟩
     refine ⟨_,rfl,?_⟩
     replace HO455:=yV HO455 hb
     replace HO458:=yV HO458 hb
     have HO461:=yL (fun k_=>k_≠gb448) ho0 (fun k_ hk_=>Or.elim hk_ (fun hs_=>Or.elim hs_ (fun hs_=>hs_) (fun hs_=>hs_)) (fun hn_=>(zf BK448 hn_)))
     replace BK448:=sK BK448 hb
     replace HB:=sB hb
     clear hb ho0
     refine hK.out _ _ ⟨zh BK448 0,zh BK448 1⟩ (fun hHeld=>?_)
     clear hK K
     refine nm ?_
     refine pv 6 (some 5) ?_
     refine done_ (by kernel_rfl) ?_
     obtain ⟨Ao45,co45,rfl⟩:=Kd.V_slice HO461.out
     try go_wp2
     go_ret
     exact ⟨ze,bw⟩
    rw [if_pos c22] at H
    obtain ⟨c22b0,c22b1⟩:=zY c22
    clear c22
    by_cases c23:0<(t459.length:Int)
    case neg=>
     rw [if_neg c23] at H
     cases H
    rw [if_pos c23] at H
    have c23b0:=decide_eq_true c23
    have c23b1:decide (0<t459.length)=true:=decide_eq_true (by omega)
    clear c23
    by_cases c24:(rd t459 0)=1
    case neg=>
     rw [if_neg c24] at H
     obtain ⟨c24b0,c24b1⟩:=zX c24
     obtain rfl:=Option.some.inj H
     try go_wp2
     replace BK448:=aZ (blk_drew BK448.out)
     replace HB:=aZ (below_drew1 HB.out)
     refine start_ (n:=7) (S:=fun w'=>w'.cell? ⟨gb448,0,none⟩=some (.string a0_0)∧w'.cell? ⟨gb448,1,none⟩=some (.string a0_1)) (ds:=[]) #[false,false,false,false,false,false,false] (by kernel_rfl) rfl rfl ⟨zh BK448 0,zh BK448 1⟩ (fun hHeld=>?_)
     generalize wc.drew=w32 at BK448 HB hHeld ⊢
     refine pv 0 (some 38) ?_
     refine pv 2 (some 40) ?_
     refine tv 3 (some 41) hHeld ?_
     refine one_ (i:=1) (N:=some 39) #[true,true,true,true,false,false,false] rfl rfl (by kernel_rfl) (by decide) (fun K hK=>?_)
     refine goes_ func105 (by kernel_rfl) rfl #[.string t449] (by rfl) rfl rfl zm ?_
     with_reducible refine (Yi.calls kj2 t449 t453 _ A19.out).mono ?_
     rintro e w33 ⟨v454,rfl,ho0,hb⟩
     refine ⟨_,rfl,?_⟩
     have HO455:=yL (fun k_=>k_≠gb448) ho0 (fun k_ hk_=>(zf BK448 hk_))
     replace BK448:=sK BK448 hb
     replace HB:=sB hb
     clear hb ho0
     refine hK.out _ _ ⟨zh BK448 0,zh BK448 1⟩ (fun hHeld=>?_)
     clear hK K
     refine nm ?_
     refine one_ (i:=4) (N:=some 42) #[true,true,true,true,true,false,false] rfl rfl (by kernel_rfl) (by decide) (fun K hK=>?_)
     refine goes_ func105 (by kernel_rfl) rfl #[.string a0_1] (by rfl) rfl rfl zm ?_
     with_reducible refine (Yi.calls kj2 a0_1 t456 _ A20.out).mono ?_
     rintro e w34 ⟨v457,rfl,ho0,hb⟩
     refine ⟨_,rfl,?_⟩
     replace HO455:=yV HO455 hb
     have HO458:=yL (fun k_=>k_≠gb448) ho0 (fun k_ hk_=>(zf BK448 hk_))
     replace BK448:=sK BK448 hb
     replace HB:=sB hb
     clear hb ho0
     obtain ⟨Ao35,co35,eo35⟩:=Kd.V_slice HO455.out
     (first|subst eo35|(injection eo35 with f1_ f2_ f3_;have f4_:=f1_.symm;have f5_:=f3_.symm;clear f1_ f2_ f3_;subst f4_;subst f5_))
     obtain ⟨Ao36,co36,eo36⟩:=Kd.V_slice HO458.out
     (first|subst eo36|(injection eo36 with f1_ f2_ f3_;have f4_:=f1_.symm;have f5_:=f3_.symm;clear f1_ f2_ f3_;subst f4_;subst f5_))
     refine hK.out _ _ ⟨zh BK448 0,zh BK448 1⟩ (fun hHeld=>?_)
     clear hK K
     refine nm ?_
     refine one_ (i:=5) (N:=some 43) #[true,true,true,true,true,true,false] rfl rfl (by kernel_rfl) (by decide) (fun K hK=>?_)
     refine goes_ func104 (by kernel_rfl) rfl #[.slice Ao35 t453.length co35,.slice Ao36 t456.length co36] (by rfl) rfl rfl zm ?_
     with_reducible refine (Yx.calls kj2 (fun k_=>k_≠gb448) _ _ t453 (fun k_=>k_≠gb448) _ _ t456 t459 _ HO455.out HO458.out A21.out).mono ?_
     rintro e w37 ⟨v460,rfl,ho0,hb⟩
     refine ⟨_,rfl,?_⟩
     replace HO455:=yV HO455 hb
     replace HO458:=yV HO458 hb
     have HO461:=yL (fun k_=>k_≠gb448) ho0 (fun k_ hk_=>Or.elim hk_ (fun hs_=>Or.elim hs_ (fun hs_=>hs_) (fun hs_=>hs_)) (fun hn_=>(zf BK448 hn_)))
     replace BK448:=sK BK448 hb
     replace HB:=sB hb
     clear hb ho0
     refine hK.out _ _ ⟨zh BK448 0,zh BK448 1⟩ (fun hHeld=>?_)
     clear hK K
     refine nm ?_
     refine pv 6 (some 5) ?_
     refine done_ (by kernel_rfl) ?_
     obtain ⟨Ao38,co38,rfl⟩:=Kd.V_slice HO461.out
     have p462:0≤(0:Int):=(by omega)
     have q462:0<(t459.length:Int):=zd
     obtain ⟨ad462,e462,hx462_0⟩:=Kd.at_int (Kd.V_reads' HO461.out).2.2 0 p462 q462
     cases e462
     have qi462:(0<t459.length)=True:=eq_true (by omega)
     (try rw [show ((0:Int)).toNat=0 from rfl] at hx462_0)
     (try rw [Addr.add_zero'] at hx462_0)
     replace p462:=eq_true p462
     replace q462:=eq_true q462
     try go_wp2
     go_ret
     exact ⟨ze,bw⟩
    rw [if_pos c24] at H
    obtain ⟨c24b0,c24b1⟩:=zY c24
    clear c24
    obtain rfl:=Option.some.inj H
    try go_wp2
    replace BK448:=aZ (blk_drew BK448.out)
    replace HB:=aZ (below_drew1 HB.out)
    refine start_ (n:=7) (S:=fun w'=>w'.cell? ⟨gb448,0,none⟩=some (.string a0_0)∧w'.cell? ⟨gb448,1,none⟩=some (.string a0_1)) (ds:=[]) #[false,false,false,false,false,false,false] (by kernel_rfl) rfl rfl ⟨zh BK448 0,zh BK448 1⟩ (fun hHeld=>?_)
    generalize wc.drew=w25 at BK448 HB hHeld ⊢
    refine pv 0 (some 38) ?_
    refine pv 2 (some 40) ?_
    refine tv 3 (some 41) hHeld ?_
    refine one_ (i:=1) (N:=some 39) #[true,true,true,true,false,false,false] rfl rfl (by kernel_rfl) (by decide) (fun K hK=>?_)
    refine goes_ func105 (by kernel_rfl) rfl #[.string t449] (by rfl) rfl rfl zm ?_
    with_reducible refine (Yi.calls kj2 t449 t453 _ A19.out).mono ?_
    rintro e w26 ⟨v454,rfl,ho0,hb⟩
    refine ⟨_,rfl,?_⟩
    have HO455:=yL (fun k_=>k_≠gb448) ho0 (fun k_ hk_=>(zf BK448 hk_))
    replace BK448:=sK BK448 hb
    replace HB:=sB hb
    clear hb ho0
    refine hK.out _ _ ⟨zh BK448 0,zh BK448 1⟩ (fun hHeld=>?_)
    clear hK K
    refine nm ?_
    refine one_ (i:=4) (N:=some 42) #[true,true,true,true,true,false,false] rfl rfl (by kernel_rfl) (by decide) (fun K hK=>?_)
    refine goes_ func105 (by kernel_rfl) rfl #[.string a0_1] (by rfl) rfl rfl zm ?_
    with_reducible refine (Yi.calls kj2 a0_1 t456 _ A20.out).mono ?_
    rintro e w27 ⟨v457,rfl,ho0,hb⟩
    refine ⟨_,rfl,?_⟩
    replace HO455:=yV HO455 hb
    have HO458:=yL (fun k_=>k_≠gb448) ho0 (fun k_ hk_=>(zf BK448 hk_))
    replace BK448:=sK BK448 hb
    replace HB:=sB hb
    clear hb ho0
    obtain ⟨Ao28,co28,eo28⟩:=Kd.V_slice HO455.out
    (first|subst eo28|(injection eo28 with f1_ f2_ f3_;have f4_:=f1_.symm;have f5_:=f3_.symm;clear f1_ f2_ f3_;subst f4_;subst f5_))
    obtain ⟨Ao29,co29,eo29⟩:=Kd.V_slice HO458.out
    (first|subst eo29|(injection eo29 with f1_ f2_ f3_;have f4_:=f1_.symm;have f5_:=f3_.symm;clear f1_ f2_ f3_;subst f4_;subst f5_))
    refine hK.out _ _ ⟨zh BK448 0,zh BK448 1⟩ (fun hHeld=>?_)
    clear hK K
    refine nm ?_
    refine one_ (i:=5) (N:=some 43) #[true,true,true,true,true,true,false] rfl rfl (by kernel_rfl) (by decide) (fun K hK=>?_)
    refine goes_ func104 (by kernel_rfl) rfl #[.slice Ao28 t453.length co28,.slice Ao29 t456.length co29] (by rfl) rfl rfl zm ?_
    with_reducible refine (Yx.calls kj2 (fun k_=>k_≠gb448) _ _ t453 (fun k_=>k_≠gb448) _ _ t456 t459 _ HO455.out HO458.out A21.out).mono ?_
    rintro e w30 ⟨v460,rfl,ho0,hb⟩
    refine ⟨_,rfl,?_⟩
    replace HO455:=yV HO455 hb
    replace HO458:=yV HO458 hb
    have HO461:=yL (fun k_=>k_≠gb448) ho0 (fun k_ hk_=>Or.elim hk_ (fun hs_=>Or.elim hs_ (fun hs_=>hs_) (fun hs_=>hs_)) (fun hn_=>(zf BK448 hn_)))
    replace BK448:=sK BK448 hb
    replace HB:=sB hb
    clear hb ho0
    refine hK.out _ _ ⟨zh BK448 0,zh BK448 1⟩ (fun hHeld=>?_)
    clear hK K
    refine nm ?_
    refine pv 6 (some 5) ?_
    refine done_ (by kernel_rfl) ?_
    obtain ⟨Ao31,co31,rfl⟩:=Kd.V_slice HO461.out
    have p462:0≤(0:Int):=(by omega)
    have q462:0<(t459.length:Int):=zd
    obtain ⟨ad462,e462,hx462_0⟩:=Kd.at_int (Kd.V_reads' HO461.out).2.2 0 p462 q462
    cases e462
    have qi462:(0<t459.length)=True:=eq_true (by omega)
    (try rw [show ((0:Int)).toNat=0 from rfl] at hx462_0)
    (try rw [Addr.add_zero'] at hx462_0)
    replace p462:=eq_true p462
    replace q462:=eq_true q462
    try go_wp2
    go_ret
    exact ⟨ze,bw⟩
   subst c18
   replace H:=zT H
   obtain rfl:=Option.some.inj H
   go_wp2
   go_ret
   exact ⟨ze,bw⟩
def Yn.l0:Nat→List (S61)→Int→Int→Option (Int)
 | 0,_,_,_=>none
 | k+1,x6,x7,x8=>if x8<x7 then (if 0≤x8 then (if x8<(x6.length:Int) then ((Yb.f k ((rd_T61 x6 x8).f0) ((rd_T61 x6 x8).f1)).bind fun t465=>(if t465=0 then (Yn.l0 k x6 x7 (wrap64 (x8+1))) else (some t465))) else (none)) else (none)) else (some 0)
def Yn.f (k:Nat) (l0:List (S61)):Option (Int):=Yn.l0 k l0 (l0.length:Int) 0
theorem Yn.calls (k:Nat) (A0:Option Addr) (c0:Nat) (l0:List (S61)) (r:Int) (w:World) (hr0:Kd.C k61 w A0 l0.length l0) (hc0:l0.length≤c0) (h:Yn.f k l0=some r) :
  Calls Tryz.prog 57 #[.slice A0 l0.length c0] w fun e w'=>e = .returned (.int .i64 r)∧Below w.heap.size w w':=by
 have hu61:=underlying61
 have HR0:=aZ hr0
 have HC0:=aZ hc0
 clear hr0 hc0
 have HB:=aZ (Below.refl w.heap.size w)
 have H:=h
 unfold Yn.f at H
 clear h
 have H':=aZ H
 clear H
 go_enter func57,ntmps57
 go_wp2
 go_loopg [8] k (fun kq v8 w'=>∃ (x8_1:Int),v8 = .int .i64 x8_1∧Aside0 (Yn.l0 kq l0 (l0.length:Int) x8_1=some r)∧Aside0 (kq≤k)∧Aside0 (Below w.heap.size w w'))
 case atStart=>exact ⟨(0),zs,H',⟨Nat.le_refl _⟩,⟨bw⟩⟩
 case round =>
  clear H'
  obtain ⟨x8_1,rfl,HA,HK1,HB⟩:=hrel
  cases gk with
  | zero=>exact absurd HA.out (by simp [Yn.l0])
  | succ k1 =>
   have H:=HA.out
   clear HA
   simp only [Yn.l0] at H
   by_cases c2:x8_1<(l0.length:Int)
   case neg=>
    rw [if_neg c2] at H
    have c2b0:=decide_eq_false c2
    clear c2
    obtain rfl:=Option.some.inj H
    go_wp2
    go_ret
    exact ⟨ze,bw⟩
   rw [if_pos c2] at H
   have c2b0:=decide_eq_true c2
   clear c2
   by_cases c3:0≤x8_1
   case neg=>
    rw [if_neg c3] at H
    cases H
   rw [if_pos c3] at H
   have c3b0:=decide_eq_true c3
   clear c3
   by_cases c4:x8_1<(l0.length:Int)
   case neg=>
    rw [if_neg c4] at H
    cases H
   rw [if_pos c4] at H
   have c4b0:=decide_eq_true c4
   clear c4
   obtain ⟨t465,A5,H⟩:=zB H
   by_cases c6:t465=0
   case neg=>
    rw [if_neg c6] at H
    obtain ⟨c6b0,c6b1⟩:=zX c6
    obtain rfl:=Option.some.inj H
    have p463:0≤(x8_1:Int):=zd
    have q463:x8_1<(l0.length:Int):=zd
    obtain ⟨ad463,e463,hx463_0,hx463_1⟩:=at_T61 HR0.out x8_1 p463 q463
    cases e463
    replace hx463_0:=(HB.out.cell (World.block_lt_of_cell? w _ hx463_0)).trans hx463_0
    replace hx463_1:=(HB.out.cell (World.block_lt_of_cell? w _ hx463_1)).trans hx463_1
    replace p463:=eq_true p463
    replace q463:=eq_true q463
    go_wp2_with (first|(refine box_ev 4 #[.string ⟨#[]⟩,.string ⟨#[]⟩] 61 ?_;intro gb464 hg w10 hbox hb;have BK464:=aZ hbox;have GE464:=sG hg;replace HB:=sB hb;clear hb hbox hg;obtain ⟨hcz11_0,hfz11_0⟩:=zc BK464 0 (.string ⟨#[]⟩) rfl;obtain ⟨hcz11_1,hfz11_1⟩:=zc BK464 1 (.string ⟨#[]⟩) rfl)|(refine zg (some 13) func53 #[.agg #[.string ((rd_T61 l0 x8_1).f0),.string ((rd_T61 l0 x8_1).f1)]] ?_;(with_reducible refine (Yb.calls k1 ((rd_T61 l0 x8_1).f0) ((rd_T61 l0 x8_1).f1) t465 _ A5.out).mono ?_);rintro e w12 ⟨rfl,hb⟩;refine ⟨_,rfl,?_⟩;replace BK464:=sP (.cells #[.string ((rd_T61 l0 x8_1).f0),.string ((rd_T61 l0 x8_1).f1)] 61 (0,0)) BK464 hb;replace HB:=sB hb;clear hb))
    go_ret
    exact ⟨ze,bw⟩
   rw [if_pos c6] at H
   obtain ⟨c6b0,c6b1⟩:=zY c6
   clear c6
   have H':=aZ H
   clear H
   have p463:0≤(x8_1:Int):=zd
   have q463:x8_1<(l0.length:Int):=zd
   obtain ⟨ad463,e463,hx463_0,hx463_1⟩:=at_T61 HR0.out x8_1 p463 q463
   cases e463
   replace hx463_0:=(HB.out.cell (World.block_lt_of_cell? w _ hx463_0)).trans hx463_0
   replace hx463_1:=(HB.out.cell (World.block_lt_of_cell? w _ hx463_1)).trans hx463_1
   replace p463:=eq_true p463
   replace q463:=eq_true q463
   go_wp2_with (first|(refine box_ev 4 #[.string ⟨#[]⟩,.string ⟨#[]⟩] 61 ?_;intro gb464 hg w7 hbox hb;have BK464:=aZ hbox;have GE464:=sG hg;replace HB:=sB hb;clear hb hbox hg;obtain ⟨hcz8_0,hfz8_0⟩:=zc BK464 0 (.string ⟨#[]⟩) rfl;obtain ⟨hcz8_1,hfz8_1⟩:=zc BK464 1 (.string ⟨#[]⟩) rfl)|(refine zg (some 13) func53 #[.agg #[.string ((rd_T61 l0 x8_1).f0),.string ((rd_T61 l0 x8_1).f1)]] ?_;(with_reducible refine (Yb.calls k1 ((rd_T61 l0 x8_1).f0) ((rd_T61 l0 x8_1).f1) t465 _ A5.out).mono ?_);rintro e w9 ⟨rfl,hb⟩;refine ⟨_,rfl,?_⟩;replace BK464:=sP (.cells #[.string ((rd_T61 l0 x8_1).f0),.string ((rd_T61 l0 x8_1).f1)] 61 (0,0)) BK464 hb;replace HB:=sB hb;clear hb))
   go_roundg k1
   case measure=>have:=HK1.out;omega
   case rel=>exact ⟨(wrap64 (x8_1+1)),zs,H',⟨by have:=HK1.out;omega⟩,⟨bw⟩⟩
def YI.f (k:Nat) (a0_0:ByteArray) (a0_1:ByteArray):Option (Bool×List Int×List Int):=(YF.f a0_0 (⟨#[45]⟩:ByteArray)).bind fun bt468=>((Yi.f k bt468.1).bind fun t470=>((Yi.f k a0_1).bind fun t473=>(some (bt468.2,t470,t473))))
def YI.T2:Bool×List (List Nat×List Nat):=(true,[([],[]),([],[]),([1],[1]),([],[]),([3],[3]),([4,2],[4]),([0,2,5],[0,2,5]),([6,5,0,1,2,3,4,5,6],[6])])
def YI.B2:List Nat:=[0,0,2,0,8,30,63,127]
theorem YI.tab2:rtab .any (opsOf Tryz.f58 2)=YI.T2:=by kernel_rfl
theorem YI.bits2:waitsOk YI.T2.2 YI.B2=true:=by kernel_rfl
theorem YI.calls (k:Nat) (a0_0:ByteArray) (a0_1:ByteArray) (r1:Bool) (r2:List Int) (r3:List Int) (w:World) (h:YI.f k a0_0 a0_1=some (r1,r2,r3)) :
  Calls Tryz.prog 58 #[.agg #[.string a0_0,.string a0_1]] w fun e w'=>∃ v1_ v2_:Value,e = .returned (.agg #[.bool r1,v1_,v2_])∧Kd.V (Kd.int .i64) 3 w' w.heap.size (fun k_=>(w.heap.size≤k_)) v1_ r2∧Kd.V (Kd.int .i64) 3 w' w.heap.size (fun k_=>(w.heap.size≤k_)) v2_ r3∧Below w.heap.size w w':=by
 have hu61:=underlying61
 have hu67:=underlying67
 have HB:=aZ (Below.refl w.heap.size w)
 have H:=h
 unfold YI.f at H
 clear h
 obtain ⟨⟨t468,t469⟩,A2,H⟩:=zB H
 (try dsimp only at H)
 obtain ⟨t470,A3,H⟩:=zB H
 obtain ⟨t473,A4,H⟩:=zB H
 obtain ⟨rfl,rfl,rfl⟩:=zo3 H
 go_enter func58,ntmps58
 try go_wp2_with (first|(refine box_ev 1 #[.string a0_0,.string a0_1] 61 ?_;intro gb466 hg w5 hbox hb;have BK466:=aZ hbox;have GE466:=sG hg;replace HB:=sB hb;clear hb hbox hg)|(refine box_ev 2 #[.bool false,.slice none 0 0,.slice none 0 0] 67 ?_;intro gb467 hg w6 hbox hb;have BK467:=aZ hbox;have GE467:=sG hg;replace HB:=sB hb;obtain ⟨NB466_467,NB467_466,BK466⟩:=sX hg hb BK466;clear hb hbox hg;have hnb7:=NB466_467.out;have hnc7:=NB467_466.out;obtain ⟨hcz8_0,hfz8_0⟩:=zc BK466 0 (.string a0_0) rfl;obtain ⟨hcz8_1,hfz8_1⟩:=zc BK466 1 (.string a0_1) rfl)|(refine zg (some 8) func102 #[.string a0_0,.string (⟨#[45]⟩:ByteArray)] ?_;(with_reducible refine (YF.calls a0_0 (⟨#[45]⟩:ByteArray) t468 t469 _ A2.out).mono ?_);rintro e w' ⟨rfl,⟨nd,rfl⟩⟩;refine ⟨_,rfl,?_⟩;(try (rw [drewN_self w6];generalize hq_:World.drewN w6 _=w6;have n0_:Aside0 (w6.heap[gb466]? = some (.cells #[.string a0_0,.string a0_1] 61 (0,0))):=⟨by rw [← hq_];exact (zb BK466)⟩;have n1_:Aside0 (w6.heap[gb467]? = some (.cells #[.bool false,.slice none 0 0,.slice none 0 0] 67 (0,0))):=⟨by rw [← hq_];exact (zb BK467)⟩;have n2_:Aside0 (Below w.heap.size w w6):=⟨by rw [← hq_];exact bw⟩;clear BK466 BK467 HB hq_;have BK466:=n0_;have BK467:=n1_;have HB:=n2_;clear n0_ n1_ n2_))))
 replace BK466:=aZ (blk_drew BK466.out)
 replace BK467:=aZ (blk_drew BK467.out)
 replace HB:=aZ (below_drew1 HB.out)
 refine start_ (n:=8) (S:=fun w'=>w'.cell? ⟨gb466,0,none⟩=some (.string a0_0)∧w'.cell? ⟨gb466,1,none⟩=some (.string a0_1)) (ds:=[]) #[false,false,false,false,false,false,false,false] (by kernel_rfl) rfl rfl ⟨zh BK466 0,zh BK466 1⟩ (fun hHeld=>?_);refine with_tabW YI.tab2 YI.bits2 (fun HT_ HW_=>?_)
 generalize w6.drew=w9 at BK466 BK467 HB hHeld ⊢
 refine pu 0 (some 11) HT_ ?_
 refine pu 1 (some 12) HT_ ?_
 refine pu 3 (some 14) HT_ ?_
 refine tk 4 (some 15) HT_ HW_ hHeld ?_
 refine one_ (i:=2) (N:=some 13) #[true,true,true,true,true,false,false,false] rfl rfl (one_of HT_.out (by kernel_rfl)) (by decide) (fun K hK=>?_)
 refine goes_ func105 (by kernel_rfl) rfl #[.string t468] (by rfl) rfl rfl zm ?_
 with_reducible refine (Yi.calls k t468 t470 _ A3.out).mono ?_
 rintro e w10 ⟨v471,rfl,ho0,hb⟩
 refine ⟨_,rfl,?_⟩
 have HO472:=yL (fun k_=>(w.heap.size≤k_)∧k_≠gb466∧k_≠gb467) ho0 (fun k_ hk_=>⟨(Nat.le_trans bs hk_),(zf BK466 hk_),(zf BK467 hk_)⟩)
 replace BK466:=sK BK466 hb
 replace BK467:=sK BK467 hb
 replace HB:=sB hb
 clear hb ho0
 refine hK.out _ _ ⟨zh BK466 0,zh BK466 1⟩ (fun hHeld=>?_)
 clear hK K
 refine nm ?_
 refine one_ (i:=5) (N:=some 16) #[true,true,true,true,true,true,false,false] rfl rfl (one_of HT_.out (by kernel_rfl)) (by decide) (fun K hK=>?_)
 refine goes_ func105 (by kernel_rfl) rfl #[.string a0_1] (by rfl) rfl rfl zm ?_
 with_reducible refine (Yi.calls k a0_1 t473 _ A4.out).mono ?_
 rintro e w11 ⟨v474,rfl,ho0,hb⟩
 refine ⟨_,rfl,?_⟩
 replace HO472:=yV HO472 hb
 have HO475:=yL (fun k_=>(w.heap.size≤k_)∧k_≠gb466∧k_≠gb467) ho0 (fun k_ hk_=>⟨(Nat.le_trans bs hk_),(zf BK466 hk_),(zf BK467 hk_)⟩)
 replace BK466:=sK BK466 hb
 replace BK467:=sK BK467 hb
 replace HB:=sB hb
 clear hb ho0
 obtain ⟨Ao12,co12,eo12⟩:=Kd.V_slice HO475.out
 (first|subst eo12|(injection eo12 with f1_ f2_ f3_;have f4_:=f1_.symm;have f5_:=f3_.symm;clear f1_ f2_ f3_;subst f4_;subst f5_))
 obtain ⟨Ao13,co13,eo13⟩:=Kd.V_slice HO472.out
 (first|subst eo13|(injection eo13 with f1_ f2_ f3_;have f4_:=f1_.symm;have f5_:=f3_.symm;clear f1_ f2_ f3_;subst f4_;subst f5_))
 refine hK.out _ _ ⟨zh BK466 0,zh BK466 1⟩ (fun hHeld=>?_)
 clear hK K
 refine nm ?_
 refine pu 6 (some 17) HT_ ?_
 refine one_ (i:=7) (N:=none) #[true,true,true,true,true,true,true,true] rfl rfl (one_of HT_.out (by kernel_rfl)) (by decide) (fun K hK=>?_)
 have hs14:w11.cell? ⟨gb467,0,none⟩=some (.bool false):=(blk_cell BK467.out 0).trans rfl
 have hfs14:=blk_frozen BK467.out 0
 have hns14_0:=NB466_467.out
 have hms14_0:=NB467_466.out
 have hs15:w11.cell? ⟨gb467,1,none⟩=some (.slice none 0 0):=(blk_cell BK467.out 1).trans rfl
 have hfs15:=blk_frozen BK467.out 1
 have hns15_0:=NB466_467.out
 have hms15_0:=NB467_466.out
 have hs16:w11.cell? ⟨gb467,2,none⟩=some (.slice none 0 0):=(blk_cell BK467.out 2).trans rfl
 have hfs16:=blk_frozen BK467.out 2
 have hns16_0:=NB466_467.out
 have hms16_0:=NB467_466.out
 refine skip_ (w1:=?_) (by rfl) rfl ?_ ?_
 rotate_left
 ·go_simp
  rfl
 refine hK.out _ _ ⟨((cell_far (p:=⟨gb467,_,none⟩) NB466_467.out _).trans (((cell_far (p:=⟨gb467,_,none⟩) NB466_467.out _).trans (((cell_far (p:=⟨gb467,_,none⟩) NB466_467.out _).trans (hHeld.1)))))),((cell_far (p:=⟨gb467,_,none⟩) NB466_467.out _).trans (((cell_far (p:=⟨gb467,_,none⟩) NB466_467.out _).trans (((cell_far (p:=⟨gb467,_,none⟩) NB466_467.out _).trans (hHeld.2))))))⟩ (fun hHeld=>?_)
 clear hK K
 refine done_ (done_of HT_.out (by kernel_rfl)) ?_
 try go_wp2
 refine bodyPost_ret (results_cell_row rfl _ _ gb467 67 #[.bool t469,.slice Ao13 t470.length co13,.slice Ao12 t473.length co12] (0,0) _ rfl (zp BK467) underlying67 rfl (by kernel_rfl)) rfl ?_
 exact ⟨_,_,ze,zF HO472,zF HO475,bw⟩
def YU.f (k:Nat) (a0_0:ByteArray) (a0_1:ByteArray):Option (Bool×List Int×List Int):=(YF.f a0_0 (⟨#[45]⟩:ByteArray)).bind fun bt478=>((Yr.f k bt478.1).bind fun t480=>((Yr.f k a0_1).bind fun t483=>(some (bt478.2,t480,t483))))
def YU.T2:Bool×List (List Nat×List Nat):=(true,[([],[]),([],[]),([1],[1]),([],[]),([3],[3]),([4,2],[4]),([0,2,5],[0,2,5]),([6,5,0,1,2,3,4,5,6],[6])])
def YU.B2:List Nat:=[0,0,2,0,8,30,63,127]
theorem YU.tab2:rtab .any (opsOf Tryz.f127 2)=YU.T2:=by kernel_rfl
theorem YU.bits2:waitsOk YU.T2.2 YU.B2=true:=by kernel_rfl
theorem YU.calls (k:Nat) (a0_0:ByteArray) (a0_1:ByteArray) (r1:Bool) (r2:List Int) (r3:List Int) (w:World) (h:YU.f k a0_0 a0_1=some (r1,r2,r3)) :
  Calls Tryz.prog 127 #[.agg #[.string a0_0,.string a0_1]] w fun e w'=>∃ v1_ v2_:Value,e = .returned (.agg #[.bool r1,v1_,v2_])∧Kd.V (Kd.int .u32) 97 w' w.heap.size (fun k_=>(w.heap.size≤k_)) v1_ r2∧Kd.V (Kd.int .u32) 97 w' w.heap.size (fun k_=>(w.heap.size≤k_)) v2_ r3∧Below w.heap.size w w':=by
 have hu61:=underlying61
 have hu103:=underlying103
 have HB:=aZ (Below.refl w.heap.size w)
 have H:=h
 unfold YU.f at H
 clear h
 obtain ⟨⟨t478,t479⟩,A2,H⟩:=zB H
 (try dsimp only at H)
 obtain ⟨t480,A3,H⟩:=zB H
 obtain ⟨t483,A4,H⟩:=zB H
 obtain ⟨rfl,rfl,rfl⟩:=zo3 H
 go_enter func127,ntmps127
 try go_wp2_with (first|(refine box_ev 1 #[.string a0_0,.string a0_1] 61 ?_;intro gb476 hg w5 hbox hb;have BK476:=aZ hbox;have GE476:=sG hg;replace HB:=sB hb;clear hb hbox hg)|(refine box_ev 2 #[.bool false,.slice none 0 0,.slice none 0 0] 103 ?_;intro gb477 hg w6 hbox hb;have BK477:=aZ hbox;have GE477:=sG hg;replace HB:=sB hb;obtain ⟨NB476_477,NB477_476,BK476⟩:=sX hg hb BK476;clear hb hbox hg;have hnb7:=NB476_477.out;have hnc7:=NB477_476.out;obtain ⟨hcz8_0,hfz8_0⟩:=zc BK476 0 (.string a0_0) rfl;obtain ⟨hcz8_1,hfz8_1⟩:=zc BK476 1 (.string a0_1) rfl)|(refine zg (some 8) func102 #[.string a0_0,.string (⟨#[45]⟩:ByteArray)] ?_;(with_reducible refine (YF.calls a0_0 (⟨#[45]⟩:ByteArray) t478 t479 _ A2.out).mono ?_);rintro e w' ⟨rfl,⟨nd,rfl⟩⟩;refine ⟨_,rfl,?_⟩;(try (rw [drewN_self w6];generalize hq_:World.drewN w6 _=w6;have n0_:Aside0 (w6.heap[gb476]? = some (.cells #[.string a0_0,.string a0_1] 61 (0,0))):=⟨by rw [← hq_];exact (zb BK476)⟩;have n1_:Aside0 (w6.heap[gb477]? = some (.cells #[.bool false,.slice none 0 0,.slice none 0 0] 103 (0,0))):=⟨by rw [← hq_];exact (zb BK477)⟩;have n2_:Aside0 (Below w.heap.size w w6):=⟨by rw [← hq_];exact bw⟩;clear BK476 BK477 HB hq_;have BK476:=n0_;have BK477:=n1_;have HB:=n2_;clear n0_ n1_ n2_))))
 replace BK476:=aZ (blk_drew BK476.out)
 replace BK477:=aZ (blk_drew BK477.out)
 replace HB:=aZ (below_drew1 HB.out)
 refine start_ (n:=8) (S:=fun w'=>w'.cell? ⟨gb476,0,none⟩=some (.string a0_0)∧w'.cell? ⟨gb476,1,none⟩=some (.string a0_1)) (ds:=[]) #[false,false,false,false,false,false,false,false] (by kernel_rfl) rfl rfl ⟨zh BK476 0,zh BK476 1⟩ (fun hHeld=>?_);refine with_tabW YU.tab2 YU.bits2 (fun HT_ HW_=>?_)
 generalize w6.drew=w9 at BK476 BK477 HB hHeld ⊢
 refine pu 0 (some 11) HT_ ?_
 refine pu 1 (some 12) HT_ ?_
 refine pu 3 (some 14) HT_ ?_
 refine tk 4 (some 15) HT_ HW_ hHeld ?_
 refine one_ (i:=2) (N:=some 13) #[true,true,true,true,true,false,false,false] rfl rfl (one_of HT_.out (by kernel_rfl)) (by decide) (fun K hK=>?_)
 refine goes_ func108 (by kernel_rfl) rfl #[.string t478] (by rfl) rfl rfl zm ?_
 with_reducible refine (Yr.calls k t478 t480 _ A3.out).mono ?_
 rintro e w10 ⟨v481,rfl,ho0,hb⟩
 refine ⟨_,rfl,?_⟩
 have HO482:=yL (fun k_=>(w.heap.size≤k_)∧k_≠gb476∧k_≠gb477) ho0 (fun k_ hk_=>⟨(Nat.le_trans bs hk_),(zf BK476 hk_),(zf BK477 hk_)⟩)
 replace BK476:=sK BK476 hb
 replace BK477:=sK BK477 hb
 replace HB:=sB hb
 clear hb ho0
 refine hK.out _ _ ⟨zh BK476 0,zh BK476 1⟩ (fun hHeld=>?_)
 clear hK K
 refine nm ?_
 refine one_ (i:=5) (N:=some 16) #[true,true,true,true,true,true,false,false] rfl rfl (one_of HT_.out (by kernel_rfl)) (by decide) (fun K hK=>?_)
 refine goes_ func108 (by kernel_rfl) rfl #[.string a0_1] (by rfl) rfl rfl zm ?_
 with_reducible refine (Yr.calls k a0_1 t483 _ A4.out).mono ?_
 rintro e w11 ⟨v484,rfl,ho0,hb⟩
 refine ⟨_,rfl,?_⟩
 replace HO482:=yV HO482 hb
 have HO485:=yL (fun k_=>(w.heap.size≤k_)∧k_≠gb476∧k_≠gb477) ho0 (fun k_ hk_=>⟨(Nat.le_trans bs hk_),(zf BK476 hk_),(zf BK477 hk_)⟩)
 replace BK476:=sK BK476 hb
 replace BK477:=sK BK477 hb
 replace HB:=sB hb
 clear hb ho0
 obtain ⟨Ao12,co12,eo12⟩:=Kd.V_slice HO485.out
 (first|subst eo12|(injection eo12 with f1_ f2_ f3_;have f4_:=f1_.symm;have f5_:=f3_.symm;clear f1_ f2_ f3_;subst f4_;subst f5_))
 obtain ⟨Ao13,co13,eo13⟩:=Kd.V_slice HO482.out
 (first|subst eo13|(injection eo13 with f1_ f2_ f3_;have f4_:=f1_.symm;have f5_:=f3_.symm;clear f1_ f2_ f3_;subst f4_;subst f5_))
 refine hK.out _ _ ⟨zh BK476 0,zh BK476 1⟩ (fun hHeld=>?_)
 clear hK K
 refine nm ?_
 refine pu 6 (some 17) HT_ ?_
 refine one_ (i:=7) (N:=none) #[true,true,true,true,true,true,true,true] rfl rfl (one_of HT_.out (by kernel_rfl)) (by decide) (fun K hK=>?_)
 have hs14:w11.cell? ⟨gb477,0,none⟩=some (.bool false):=(blk_cell BK477.out 0).trans rfl
 have hfs14:=blk_frozen BK477.out 0
 have hns14_0:=NB476_477.out
 have hms14_0:=NB477_476.out
 have hs15:w11.cell? ⟨gb477,1,none⟩=some (.slice none 0 0):=(blk_cell BK477.out 1).trans rfl
 have hfs15:=blk_frozen BK477.out 1
 have hns15_0:=NB476_477.out
 have hms15_0:=NB477_476.out
 have hs16:w11.cell? ⟨gb477,2,none⟩=some (.slice none 0 0):=(blk_cell BK477.out 2).trans rfl
 have hfs16:=blk_frozen BK477.out 2
 have hns16_0:=NB476_477.out
 have hms16_0:=NB477_476.out
 refine skip_ (w1:=?_) (by rfl) rfl ?_ ?_
 rotate_left
 ·go_simp
  rfl
 refine hK.out _ _ ⟨((cell_far (p:=⟨gb477,_,none⟩) NB476_477.out _).trans (((cell_far (p:=⟨gb477,_,none⟩) NB476_477.out _).trans (((cell_far (p:=⟨gb477,_,none⟩) NB476_477.out _).trans (hHeld.1)))))),((cell_far (p:=⟨gb477,_,none⟩) NB476_477.out _).trans (((cell_far (p:=⟨gb477,_,none⟩) NB476_477.out _).trans (((cell_far (p:=⟨gb477,_,none⟩) NB476_477.out _).trans (hHeld.2))))))⟩ (fun hHeld=>?_)
 clear hK K
 refine done_ (done_of HT_.out (by kernel_rfl)) ?_
 try go_wp2
 refine bodyPost_ret (results_cell_row rfl _ _ gb477 103 #[.bool t479,.slice Ao13 t480.length co13,.slice Ao12 t483.length co12] (0,0) _ rfl (zp BK477) underlying103 rfl (by kernel_rfl)) rfl ?_
 exact ⟨_,_,ze,zF HO482,zF HO485,bw⟩
def YQ.f (a0_0:Bool) (l0_1:List Int) (l0_2:List Int):Option (Int):=(YJ.f l0_1).bind fun t487=>(if t487=true then (some 0) else (if a0_0=true then (some (-1)) else (some 1)))
theorem YQ.calls (a0_0:Bool) (A0_1:Option Addr) (c0_1:Nat) (l0_1:List Int) (A0_2:Option Addr) (c0_2:Nat) (l0_2:List Int) (r:Int) (w:World) (hr0_1:Kd.C (Kd.int .u32) w A0_1 l0_1.length l0_1) (hc0_1:l0_1.length≤c0_1) (hr0_2:Kd.C (Kd.int .u32) w A0_2 l0_2.length l0_2) (hc0_2:l0_2.length≤c0_2) (h:YQ.f a0_0 l0_1 l0_2=some r) :
  Calls Tryz.prog 128 #[.agg #[.bool a0_0,.slice A0_1 l0_1.length c0_1,.slice A0_2 l0_2.length c0_2]] w fun e w'=>e = .returned (.int .i64 r)∧Below w.heap.size w w':=by
 have hu103:=underlying103
 have HR0_1:=aZ hr0_1
 have HC0_1:=aZ hc0_1
 clear hr0_1 hc0_1
 have HR0_2:=aZ hr0_2
 have HC0_2:=aZ hc0_2
 clear hr0_2 hc0_2
 have HB:=aZ (Below.refl w.heap.size w)
 have H:=h
 unfold YQ.f at H
 clear h
 obtain ⟨t487,A2,H⟩:=zB H
 by_cases c3:t487=true
 case neg=>
  replace c3:=Bool.eq_false_iff.mpr c3
  subst c3
  replace H:=zU H
  by_cases c6:a0_0=true
  case neg=>
   replace c6:=Bool.eq_false_iff.mpr c6
   subst c6
   replace H:=zU H
   obtain rfl:=Option.some.inj H
   go_enter func128,ntmps128
   go_wp2_with (first|(refine box_ev 1 #[.bool false,.slice A0_1 l0_1.length c0_1,.slice A0_2 l0_2.length c0_2] 103 ?_;intro gb486 hg w9 hbox hb;have BK486:=aZ hbox;have GE486:=sG hg;replace HB:=sB hb;clear hb hbox hg;obtain ⟨hcz10_0,hfz10_0⟩:=zc BK486 0 (.bool false) rfl;obtain ⟨hcz10_1,hfz10_1⟩:=zc BK486 1 (.slice A0_1 l0_1.length c0_1) rfl;obtain ⟨hcz10_2,hfz10_2⟩:=zc BK486 2 (.slice A0_2 l0_2.length c0_2) rfl)|(refine zg (some 6) func151 #[.slice A0_1 l0_1.length c0_1] ?_;(with_reducible refine (YJ.calls _ _ l0_1 false _ (zC (Kd.C_below HR0_1.out HB.out)) HC0_1.out A2.out).mono ?_);rintro e w' ⟨rfl,⟨nd,rfl⟩⟩;refine ⟨_,rfl,?_⟩))
   go_ret
   exact ⟨ze,bw⟩
  subst c6
  replace H:=zT H
  obtain rfl:=Option.some.inj H
  go_enter func128,ntmps128
  go_wp2_with (first|(refine box_ev 1 #[.bool true,.slice A0_1 l0_1.length c0_1,.slice A0_2 l0_2.length c0_2] 103 ?_;intro gb486 hg w7 hbox hb;have BK486:=aZ hbox;have GE486:=sG hg;replace HB:=sB hb;clear hb hbox hg;obtain ⟨hcz8_0,hfz8_0⟩:=zc BK486 0 (.bool true) rfl;obtain ⟨hcz8_1,hfz8_1⟩:=zc BK486 1 (.slice A0_1 l0_1.length c0_1) rfl;obtain ⟨hcz8_2,hfz8_2⟩:=zc BK486 2 (.slice A0_2 l0_2.length c0_2) rfl)|(refine zg (some 6) func151 #[.slice A0_1 l0_1.length c0_1] ?_;(with_reducible refine (YJ.calls _ _ l0_1 false _ (zC (Kd.C_below HR0_1.out HB.out)) HC0_1.out A2.out).mono ?_);rintro e w' ⟨rfl,⟨nd,rfl⟩⟩;refine ⟨_,rfl,?_⟩))
  go_ret
  exact ⟨ze,bw⟩
 subst c3
 replace H:=zT H
 obtain rfl:=Option.some.inj H
 go_enter func128,ntmps128
 go_wp2_with (first|(refine box_ev 1 #[.bool a0_0,.slice A0_1 l0_1.length c0_1,.slice A0_2 l0_2.length c0_2] 103 ?_;intro gb486 hg w4 hbox hb;have BK486:=aZ hbox;have GE486:=sG hg;replace HB:=sB hb;clear hb hbox hg;obtain ⟨hcz5_0,hfz5_0⟩:=zc BK486 0 (.bool a0_0) rfl;obtain ⟨hcz5_1,hfz5_1⟩:=zc BK486 1 (.slice A0_1 l0_1.length c0_1) rfl;obtain ⟨hcz5_2,hfz5_2⟩:=zc BK486 2 (.slice A0_2 l0_2.length c0_2) rfl)|(refine zg (some 6) func151 #[.slice A0_1 l0_1.length c0_1] ?_;(with_reducible refine (YJ.calls _ _ l0_1 true _ (zC (Kd.C_below HR0_1.out HB.out)) HC0_1.out A2.out).mono ?_);rintro e w' ⟨rfl,⟨nd,rfl⟩⟩;refine ⟨_,rfl,?_⟩))
 go_ret
 exact ⟨ze,bw⟩
def Y0a.f (k:Nat) (a0_0:Bool) (l0_1:List Int) (l0_2:List Int) (a1_0:Bool) (l1_1:List Int) (l1_2:List Int):Option (Int):=(YQ.f a0_0 l0_1 l0_2).bind fun t490=>((YQ.f a1_0 l1_1 l1_2).bind fun t491=>(if t490<t491 then (some (-1)) else (if t490 > t491 then (some 1) else ((Yf.f k l0_1 l1_2).bind fun t492=>((Yf.f k l1_1 l0_2).bind fun t495=>((YC.f k t492 t495).bind fun t498=>(some (wrap64 (t490*t498)))))))))
def Y0a.T6:Bool×List (List Nat×List Nat):=(true,[([],[]),([],[]),([1],[1]),([],[]),([3],[3]),([2,4],[2,4]),([],[]),([6],[6]),([],[]),([8],[8]),([7,9,5],[7,9]),([5,10,10],[5,10]),([0,11],[0,11]),([12,11,0,1,2,3,4,5,6,7,8,9,10,11,12],[12])])
def Y0a.B6:List Nat:=[0,0,2,0,8,30,0,64,0,256,1022,2046,4095,8191]
theorem Y0a.tab6:rtab .any (opsOf Tryz.f131 6)=Y0a.T6:=by kernel_rfl
theorem Y0a.bits6:waitsOk Y0a.T6.2 Y0a.B6=true:=by kernel_rfl
theorem Y0a.calls (k:Nat) (a0_0:Bool) (A0_1:Option Addr) (c0_1:Nat) (l0_1:List Int) (A0_2:Option Addr) (c0_2:Nat) (l0_2:List Int) (a1_0:Bool) (A1_1:Option Addr) (c1_1:Nat) (l1_1:List Int) (A1_2:Option Addr) (c1_2:Nat) (l1_2:List Int) (r:Int) (w:World) (hr0_1:Kd.C (Kd.int .u32) w A0_1 l0_1.length l0_1) (hc0_1:l0_1.length≤c0_1) (hr0_2:Kd.C (Kd.int .u32) w A0_2 l0_2.length l0_2) (hc0_2:l0_2.length≤c0_2) (hr1_1:Kd.C (Kd.int .u32) w A1_1 l1_1.length l1_1) (hc1_1:l1_1.length≤c1_1) (hr1_2:Kd.C (Kd.int .u32) w A1_2 l1_2.length l1_2) (hc1_2:l1_2.length≤c1_2) (h:Y0a.f k a0_0 l0_1 l0_2 a1_0 l1_1 l1_2=some r) :
  Calls Tryz.prog 131 #[.agg #[.bool a0_0,.slice A0_1 l0_1.length c0_1,.slice A0_2 l0_2.length c0_2],.agg #[.bool a1_0,.slice A1_1 l1_1.length c1_1,.slice A1_2 l1_2.length c1_2]] w fun e w'=>e = .returned (.int .i64 r)∧Below w.heap.size w w':=by
 have hu103:=underlying103
 have HR0_1:=aZ hr0_1
 have HC0_1:=aZ hc0_1
 clear hr0_1 hc0_1
 have HR0_2:=aZ hr0_2
 have HC0_2:=aZ hc0_2
 clear hr0_2 hc0_2
 have HR1_1:=aZ hr1_1
 have HC1_1:=aZ hc1_1
 clear hr1_1 hc1_1
 have HR1_2:=aZ hr1_2
 have HC1_2:=aZ hc1_2
 clear hr1_2 hc1_2
 have HB:=aZ (Below.refl w.heap.size w)
 have H:=h
 unfold Y0a.f at H
 clear h
 obtain ⟨t490,A3,H⟩:=zB H
 obtain ⟨t491,A4,H⟩:=zB H
 by_cases c5:t490<t491
 case neg=>
  rw [if_neg c5] at H
  have c5b0:=decide_eq_false c5
  clear c5
  by_cases c11:t490 > t491
  case neg=>
   rw [if_neg c11] at H
   have c11b0:=decide_eq_false c11
   clear c11
   obtain ⟨t492,A17,H⟩:=zB H
   obtain ⟨t495,A18,H⟩:=zB H
   obtain ⟨t498,A19,H⟩:=zB H
   obtain rfl:=Option.some.inj H
   go_enter func131,ntmps131
   try go_wp2_with (first|(refine box_ev 2 #[.bool a0_0,.slice A0_1 l0_1.length c0_1,.slice A0_2 l0_2.length c0_2] 103 ?_;intro gb488 hg w20 hbox hb;have BK488:=aZ hbox;have GE488:=sG hg;replace HB:=sB hb;clear hb hbox hg)|(refine box_ev 3 #[.bool a1_0,.slice A1_1 l1_1.length c1_1,.slice A1_2 l1_2.length c1_2] 103 ?_;intro gb489 hg w21 hbox hb;have BK489:=aZ hbox;have GE489:=sG hg;replace HB:=sB hb;obtain ⟨NB488_489,NB489_488,BK488⟩:=sX hg hb BK488;clear hb hbox hg))
   replace BK488:=aZ (blk_drew BK488.out)
   replace BK489:=aZ (blk_drew BK489.out)
   replace HB:=aZ (below_drew1 HB.out)
   refine start_ (n:=6) (S:=fun w'=>w'.cell? ⟨gb488,0,none⟩=some (.bool a0_0)∧w'.cell? ⟨gb488,1,none⟩=some (.slice A0_1 l0_1.length c0_1)∧w'.cell? ⟨gb488,2,none⟩=some (.slice A0_2 l0_2.length c0_2)∧w'.cell? ⟨gb489,0,none⟩=some (.bool a1_0)∧w'.cell? ⟨gb489,1,none⟩=some (.slice A1_1 l1_1.length c1_1)∧w'.cell? ⟨gb489,2,none⟩=some (.slice A1_2 l1_2.length c1_2)) (ds:=[]) #[false,false,false,false,false,false] (by kernel_rfl) rfl rfl ⟨zh BK488 0,zh BK488 1,zh BK488 2,zh BK489 0,zh BK489 1,zh BK489 2⟩ (fun hHeld=>?_)
   generalize w21.drew=w22 at BK488 BK489 HB hHeld ⊢
   refine tv 0 (some 7) hHeld ?_
   refine tv 2 (some 9) hHeld ?_
   refine one_ (i:=1) (N:=some 8) #[true,true,true,false,false,false] rfl rfl (by kernel_rfl) (by decide) (fun K hK=>?_)
   refine goes_ func128 (by kernel_rfl) rfl #[.agg #[.bool a0_0,.slice A0_1 l0_1.length c0_1,.slice A0_2 l0_2.length c0_2]] (by rfl) rfl rfl zm ?_
   with_reducible refine (YQ.calls a0_0 _ _ l0_1 _ _ l0_2 t490 _ (zC (Kd.C_below HR0_1.out HB.out)) HC0_1.out (zC (Kd.C_below HR0_2.out HB.out)) HC0_2.out A3.out).mono ?_
   rintro e w23 ⟨rfl,hb⟩
   refine ⟨_,rfl,?_⟩
   replace BK488:=sK BK488 hb
   replace BK489:=sK BK489 hb
   replace HB:=sB hb
   clear hb
   refine hK.out _ _ ⟨zh BK488 0,zh BK488 1,zh BK488 2,zh BK489 0,zh BK489 1,zh BK489 2⟩ (fun hHeld=>?_)
   clear hK K
   refine nm ?_
   refine one_ (i:=3) (N:=some 10) #[true,true,true,true,false,false] rfl rfl (by kernel_rfl) (by decide) (fun K hK=>?_)
   refine goes_ func128 (by kernel_rfl) rfl #[.agg #[.bool a1_0,.slice A1_1 l1_1.length c1_1,.slice A1_2 l1_2.length c1_2]] (by rfl) rfl rfl zm ?_
   with_reducible refine (YQ.calls a1_0 _ _ l1_1 _ _ l1_2 t491 _ (zC (Kd.C_below HR1_1.out HB.out)) HC1_1.out (zC (Kd.C_below HR1_2.out HB.out)) HC1_2.out A4.out).mono ?_
   rintro e w24 ⟨rfl,hb⟩
   refine ⟨_,rfl,?_⟩
   replace BK488:=sK BK488 hb
   replace BK489:=sK BK489 hb
   replace HB:=sB hb
   clear hb
   refine hK.out _ _ ⟨zh BK488 0,zh BK488 1,zh BK488 2,zh BK489 0,zh BK489 1,zh BK489 2⟩ (fun hHeld=>?_)
   clear hK K
   refine nm ?_
   refine pv 4 (some 5) ?_
   refine pv 5 (some 6) ?_
   refine done_ (by kernel_rfl) ?_
   try go_wp2
   replace BK488:=aZ (blk_drew BK488.out)
   replace BK489:=aZ (blk_drew BK489.out)
   replace HB:=aZ (below_drew1 HB.out)
   refine start_ (n:=14) (S:=fun w'=>w'.cell? ⟨gb488,0,none⟩=some (.bool a0_0)∧w'.cell? ⟨gb488,1,none⟩=some (.slice A0_1 l0_1.length c0_1)∧w'.cell? ⟨gb488,2,none⟩=some (.slice A0_2 l0_2.length c0_2)∧w'.cell? ⟨gb489,0,none⟩=some (.bool a1_0)∧w'.cell? ⟨gb489,1,none⟩=some (.slice A1_1 l1_1.length c1_1)∧w'.cell? ⟨gb489,2,none⟩=some (.slice A1_2 l1_2.length c1_2)) (ds:=[]) #[false,false,false,false,false,false,false,false,false,false,false,false,false,false] (by kernel_rfl) rfl rfl ⟨zh BK488 0,zh BK488 1,zh BK488 2,zh BK489 0,zh BK489 1,zh BK489 2⟩ (fun hHeld=>?_);refine with_tabW Y0a.tab6 Y0a.bits6 (fun HT_ HW_=>?_)
   generalize w24.drew=w25 at BK488 BK489 HB hHeld ⊢
   refine pu 0 (some 19) HT_ ?_
   refine pu 1 (some 20) HT_ ?_
   refine pu 3 (some 22) HT_ ?_
   refine pu 6 (some 25) HT_ ?_
   refine pu 8 (some 27) HT_ ?_
   refine tk 2 (some 21) HT_ HW_ hHeld ?_
   refine tk 4 (some 23) HT_ HW_ hHeld ?_
   refine tk 7 (some 26) HT_ HW_ hHeld ?_
   refine tk 9 (some 28) HT_ HW_ hHeld ?_
   refine one_ (i:=5) (N:=some 24) #[true,true,true,true,true,true,true,true,true,true,false,false,false,false] rfl rfl (one_of HT_.out (by kernel_rfl)) (by decide) (fun K hK=>?_)
   refine goes_ func149 (by kernel_rfl) rfl #[.slice A0_1 l0_1.length c0_1,.slice A1_2 l1_2.length c1_2] (by rfl) rfl rfl zm ?_
   with_reducible refine (Yf.calls k _ _ l0_1 _ _ l1_2 t492 _ (zC (Kd.C_below HR0_1.out HB.out)) HC0_1.out (zC (Kd.C_below HR1_2.out HB.out)) HC1_2.out A17.out).mono ?_
   rintro e w26 ⟨v493,rfl,ho0,hb⟩
   refine ⟨_,rfl,?_⟩
   have HO494:=yL (fun k_=>k_≠gb488∧k_≠gb489) ho0 (fun k_ hk_=>⟨(zf BK488 hk_),(zf BK489 hk_)⟩)
   replace BK488:=sK BK488 hb
   replace BK489:=sK BK489 hb
   replace HB:=sB hb
   clear hb ho0
   refine hK.out _ _ ⟨zh BK488 0,zh BK488 1,zh BK488 2,zh BK489 0,zh BK489 1,zh BK489 2⟩ (fun hHeld=>?_)
   clear hK K
   refine nm ?_
   refine one_ (i:=10) (N:=some 29) #[true,true,true,true,true,true,true,true,true,true,true,false,false,false] rfl rfl (one_of HT_.out (by kernel_rfl)) (by decide) (fun K hK=>?_)
   refine goes_ func149 (by kernel_rfl) rfl #[.slice A1_1 l1_1.length c1_1,.slice A0_2 l0_2.length c0_2] (by rfl) rfl rfl zm ?_
   with_reducible refine (Yf.calls k _ _ l1_1 _ _ l0_2 t495 _ (zC (Kd.C_below HR1_1.out HB.out)) HC1_1.out (zC (Kd.C_below HR0_2.out HB.out)) HC0_2.out A18.out).mono ?_
   rintro e w27 ⟨v496,rfl,ho0,hb⟩
   refine ⟨_,rfl,?_⟩
   replace HO494:=yV HO494 hb
   have HO497:=yL (fun k_=>k_≠gb488∧k_≠gb489) ho0 (fun k_ hk_=>⟨(zf BK488 hk_),(zf BK489 hk_)⟩)
   replace BK488:=sK BK488 hb
   replace BK489:=sK BK489 hb
   replace HB:=sB hb
   clear hb ho0
   obtain ⟨Ao28,co28,eo28⟩:=Kd.V_slice HO494.out
   (first|subst eo28|(injection eo28 with f1_ f2_ f3_;have f4_:=f1_.symm;have f5_:=f3_.symm;clear f1_ f2_ f3_;subst f4_;subst f5_))
   obtain ⟨Ao29,co29,eo29⟩:=Kd.V_slice HO497.out
   (first|subst eo29|(injection eo29 with f1_ f2_ f3_;have f4_:=f1_.symm;have f5_:=f3_.symm;clear f1_ f2_ f3_;subst f4_;subst f5_))
   refine hK.out _ _ ⟨zh BK488 0,zh BK488 1,zh BK488 2,zh BK489 0,zh BK489 1,zh BK489 2⟩ (fun hHeld=>?_)
   clear hK K
   refine nm ?_
   refine one_ (i:=11) (N:=some 30) #[true,true,true,true,true,true,true,true,true,true,true,true,false,false] rfl rfl (one_of HT_.out (by kernel_rfl)) (by decide) (fun K hK=>?_)
   refine goes_ func153 (by kernel_rfl) rfl #[.slice Ao28 t492.length co28,.slice Ao29 t495.length co29] (by rfl) rfl rfl zm ?_
   with_reducible refine (YC.calls k _ _ t492 _ _ t495 t498 _ (zC (Kd.V_reads' HO494.out).2.2) ((Kd.V_reads' HO494.out).2.1) (zC (Kd.V_reads' HO497.out).2.2) ((Kd.V_reads' HO497.out).2.1) A19.out).mono ?_
   rintro e w' ⟨rfl,⟨nd,rfl⟩⟩
   refine ⟨_,rfl,?_⟩
   refine hK.out _ _ ⟨zh BK488 0,zh BK488 1,zh BK488 2,zh BK489 0,zh BK489 1,zh BK489 2⟩ (fun hHeld=>?_)
   clear hK K
   refine nm ?_
   refine pu 12 (some 31) HT_ ?_
   refine pu 13 (some 4) HT_ ?_
   refine done_ (done_of HT_.out (by kernel_rfl)) ?_
   try go_wp2
   go_ret
   exact ⟨ze,bw⟩
  rw [if_pos c11] at H
  have c11b0:=decide_eq_true c11
  clear c11
  obtain rfl:=Option.some.inj H
  go_enter func131,ntmps131
  try go_wp2_with (first|(refine box_ev 2 #[.bool a0_0,.slice A0_1 l0_1.length c0_1,.slice A0_2 l0_2.length c0_2] 103 ?_;intro gb488 hg w12 hbox hb;have BK488:=aZ hbox;have GE488:=sG hg;replace HB:=sB hb;clear hb hbox hg)|(refine box_ev 3 #[.bool a1_0,.slice A1_1 l1_1.length c1_1,.slice A1_2 l1_2.length c1_2] 103 ?_;intro gb489 hg w13 hbox hb;have BK489:=aZ hbox;have GE489:=sG hg;replace HB:=sB hb;obtain ⟨NB488_489,NB489_488,BK488⟩:=sX hg hb BK488;clear hb hbox hg))
  replace BK488:=aZ (blk_drew BK488.out)
  replace BK489:=aZ (blk_drew BK489.out)
  replace HB:=aZ (below_drew1 HB.out)
  refine start_ (n:=6) (S:=fun w'=>w'.cell? ⟨gb488,0,none⟩=some (.bool a0_0)∧w'.cell? ⟨gb488,1,none⟩=some (.slice A0_1 l0_1.length c0_1)∧w'.cell? ⟨gb488,2,none⟩=some (.slice A0_2 l0_2.length c0_2)∧w'.cell? ⟨gb489,0,none⟩=some (.bool a1_0)∧w'.cell? ⟨gb489,1,none⟩=some (.slice A1_1 l1_1.length c1_1)∧w'.cell? ⟨gb489,2,none⟩=some (.slice A1_2 l1_2.length c1_2)) (ds:=[]) #[false,false,false,false,false,false] (by kernel_rfl) rfl rfl ⟨zh BK488 0,zh BK488 1,zh BK488 2,zh BK489 0,zh BK489 1,zh BK489 2⟩ (fun hHeld=>?_)
  generalize w13.drew=w14 at BK488 BK489 HB hHeld ⊢
  refine tv 0 (some 7) hHeld ?_
  refine tv 2 (some 9) hHeld ?_
  refine one_ (i:=1) (N:=some 8) #[true,true,true,false,false,false] rfl rfl (by kernel_rfl) (by decide) (fun K hK=>?_)
  refine goes_ func128 (by kernel_rfl) rfl #[.agg #[.bool a0_0,.slice A0_1 l0_1.length c0_1,.slice A0_2 l0_2.length c0_2]] (by rfl) rfl rfl zm ?_
  with_reducible refine (YQ.calls a0_0 _ _ l0_1 _ _ l0_2 t490 _ (zC (Kd.C_below HR0_1.out HB.out)) HC0_1.out (zC (Kd.C_below HR0_2.out HB.out)) HC0_2.out A3.out).mono ?_
  rintro e w15 ⟨rfl,hb⟩
  refine ⟨_,rfl,?_⟩
  replace BK488:=sK BK488 hb
  replace BK489:=sK BK489 hb
  replace HB:=sB hb
  clear hb
  refine hK.out _ _ ⟨zh BK488 0,zh BK488 1,zh BK488 2,zh BK489 0,zh BK489 1,zh BK489 2⟩ (fun hHeld=>?_)
  clear hK K
  refine nm ?_
  refine one_ (i:=3) (N:=some 10) #[true,true,true,true,false,false] rfl rfl (by kernel_rfl) (by decide) (fun K hK=>?_)
  refine goes_ func128 (by kernel_rfl) rfl #[.agg #[.bool a1_0,.slice A1_1 l1_1.length c1_1,.slice A1_2 l1_2.length c1_2]] (by rfl) rfl rfl zm ?_
  with_reducible refine (YQ.calls a1_0 _ _ l1_1 _ _ l1_2 t491 _ (zC (Kd.C_below HR1_1.out HB.out)) HC1_1.out (zC (Kd.C_below HR1_2.out HB.out)) HC1_2.out A4.out).mono ?_
  rintro e w16 ⟨rfl,hb⟩
  refine ⟨_,rfl,?_⟩
  replace BK488:=sK BK488 hb
  replace BK489:=sK BK489 hb
  replace HB:=sB hb
  clear hb
  refine hK.out _ _ ⟨zh BK488 0,zh BK488 1,zh BK488 2,zh BK489 0,zh BK489 1,zh BK489 2⟩ (fun hHeld=>?_)
  clear hK K
  refine nm ?_
  refine pv 4 (some 5) ?_
  refine pv 5 (some 6) ?_
  refine done_ (by kernel_rfl) ?_
  try go_wp2
  go_ret
  exact ⟨ze,bw⟩
 rw [if_pos c5] at H
 have c5b0:=decide_eq_true c5
 clear c5
 obtain rfl:=Option.some.inj H
 go_enter func131,ntmps131
 try go_wp2_with (first|(refine box_ev 2 #[.bool a0_0,.slice A0_1 l0_1.length c0_1,.slice A0_2 l0_2.length c0_2] 103 ?_;intro gb488 hg w6 hbox hb;have BK488:=aZ hbox;have GE488:=sG hg;replace HB:=sB hb;clear hb hbox hg)|(refine box_ev 3 #[.bool a1_0,.slice A1_1 l1_1.length c1_1,.slice A1_2 l1_2.length c1_2] 103 ?_;intro gb489 hg w7 hbox hb;have BK489:=aZ hbox;have GE489:=sG hg;replace HB:=sB hb;obtain ⟨NB488_489,NB489_488,BK488⟩:=sX hg hb BK488;clear hb hbox hg))
 replace BK488:=aZ (blk_drew BK488.out)
 replace BK489:=aZ (blk_drew BK489.out)
 replace HB:=aZ (below_drew1 HB.out)
 refine start_ (n:=6) (S:=fun w'=>w'.cell? ⟨gb488,0,none⟩=some (.bool a0_0)∧w'.cell? ⟨gb488,1,none⟩=some (.slice A0_1 l0_1.length c0_1)∧w'.cell? ⟨gb488,2,none⟩=some (.slice A0_2 l0_2.length c0_2)∧w'.cell? ⟨gb489,0,none⟩=some (.bool a1_0)∧w'.cell? ⟨gb489,1,none⟩=some (.slice A1_1 l1_1.length c1_1)∧w'.cell? ⟨gb489,2,none⟩=some (.slice A1_2 l1_2.length c1_2)) (ds:=[]) #[false,false,false,false,false,false] (by kernel_rfl) rfl rfl ⟨zh BK488 0,zh BK488 1,zh BK488 2,zh BK489 0,zh BK489 1,zh BK489 2⟩ (fun hHeld=>?_)
 generalize w7.drew=w8 at BK488 BK489 HB hHeld ⊢
 refine tv 0 (some 7) hHeld ?_
 refine tv 2 (some 9) hHeld ?_
 refine one_ (i:=1) (N:=some 8) #[true,true,true,false,false,false] rfl rfl (by kernel_rfl) (by decide) (fun K hK=>?_)
 refine goes_ func128 (by kernel_rfl) rfl #[.agg #[.bool a0_0,.slice A0_1 l0_1.length c0_1,.slice A0_2 l0_2.length c0_2]] (by rfl) rfl rfl zm ?_
 with_reducible refine (YQ.calls a0_0 _ _ l0_1 _ _ l0_2 t490 _ (zC (Kd.C_below HR0_1.out HB.out)) HC0_1.out (zC (Kd.C_below HR0_2.out HB.out)) HC0_2.out A3.out).mono ?_
 rintro e w9 ⟨rfl,hb⟩
 refine ⟨_,rfl,?_⟩
 replace BK488:=sK BK488 hb
 replace BK489:=sK BK489 hb
 replace HB:=sB hb
 clear hb
 refine hK.out _ _ ⟨zh BK488 0,zh BK488 1,zh BK488 2,zh BK489 0,zh BK489 1,zh BK489 2⟩ (fun hHeld=>?_)
 clear hK K
 refine nm ?_
 refine one_ (i:=3) (N:=some 10) #[true,true,true,true,false,false] rfl rfl (by kernel_rfl) (by decide) (fun K hK=>?_)
 refine goes_ func128 (by kernel_rfl) rfl #[.agg #[.bool a1_0,.slice A1_1 l1_1.length c1_1,.slice A1_2 l1_2.length c1_2]] (by rfl) rfl rfl zm ?_
 with_reducible refine (YQ.calls a1_0 _ _ l1_1 _ _ l1_2 t491 _ (zC (Kd.C_below HR1_1.out HB.out)) HC1_1.out (zC (Kd.C_below HR1_2.out HB.out)) HC1_2.out A4.out).mono ?_
 rintro e w10 ⟨rfl,hb⟩
 refine ⟨_,rfl,?_⟩
 replace BK488:=sK BK488 hb
 replace BK489:=sK BK489 hb
 replace HB:=sB hb
 clear hb
 refine hK.out _ _ ⟨zh BK488 0,zh BK488 1,zh BK488 2,zh BK489 0,zh BK489 1,zh BK489 2⟩ (fun hHeld=>?_)
 clear hK K
 refine nm ?_
 refine pv 4 (some 5) ?_
 refine pv 5 (some 6) ?_
 refine done_ (by kernel_rfl) ?_
 try go_wp2
 go_ret
 exact ⟨ze,bw⟩
def Y0u.f (k:Nat) (a0_0:ByteArray) (a0_1:ByteArray) (a1_0:ByteArray) (a1_1:ByteArray):Option (Int×Int):=(Y8.f k a0_0 a0_1).bind fun t501=>(if t501=0 then ((Y8.f k a1_0 a1_1).bind fun t502=>(if t502=0 then ((YU.f k a0_0 a0_1).bind fun bt503=>((YU.f k a1_0 a1_1).bind fun bt510=>((Y0a.f k bt503.1 bt503.2.1 bt503.2.2 bt510.1 bt510.2.1 bt510.2.2).bind fun t517=>(some (t517,0))))) else (some (0,t502)))) else (some (0,t501)))
theorem Y0u.calls (k:Nat) (a0_0:ByteArray) (a0_1:ByteArray) (a1_0:ByteArray) (a1_1:ByteArray) (r1:Int) (r2:Int) (w:World) (h:Y0u.f k a0_0 a0_1 a1_0 a1_1=some (r1,r2)) :
  Calls Tryz.prog 79 #[.agg #[.string a0_0,.string a0_1],.agg #[.string a1_0,.string a1_1]] w fun e w'=>e = .returned (.tuple #[.int .i64 r1,.int .i64 r2])∧Below w.heap.size w w':=by
 have hu61:=underlying61
 have HB:=aZ (Below.refl w.heap.size w)
 have H:=h
 unfold Y0u.f at H
 clear h
 obtain ⟨t501,A3,H⟩:=zB H
 by_cases c4:t501=0
 case neg=>
  rw [if_neg c4] at H
  obtain ⟨c4b0,c4b1⟩:=zX c4
  obtain ⟨rfl,rfl⟩:=zo2 H
  go_enter func79,ntmps79
  go_wp2_with (first|(refine box_ev 2 #[.string a0_0,.string a0_1] 61 ?_;intro gb499 hg w32 hbox hb;have BK499:=aZ hbox;have GE499:=sG hg;replace HB:=sB hb;clear hb hbox hg)|(refine box_ev 3 #[.string a1_0,.string a1_1] 61 ?_;intro gb500 hg w33 hbox hb;have BK500:=aZ hbox;have GE500:=sG hg;replace HB:=sB hb;obtain ⟨NB499_500,NB500_499,BK499⟩:=sX hg hb BK499;clear hb hbox hg;have hnb34:=NB499_500.out;have hnc34:=NB500_499.out;obtain ⟨hcz35_0,hfz35_0⟩:=zc BK499 0 (.string a0_0) rfl;obtain ⟨hcz35_1,hfz35_1⟩:=zc BK499 1 (.string a0_1) rfl)|(refine zg (some 9) func56 #[.agg #[.string a0_0,.string a0_1]] ?_;(with_reducible refine (Y8.calls k a0_0 a0_1 t501 _ A3.out).mono ?_);rintro e w36 ⟨rfl,hb⟩;refine ⟨_,rfl,?_⟩;replace BK499:=sK BK499 hb;replace BK500:=sK BK500 hb;replace HB:=sB hb;clear hb))
  go_ret2
  exact ⟨ze,bw⟩
 rw [if_pos c4] at H
 obtain ⟨c4b0,c4b1⟩:=zY c4
 clear c4
 obtain ⟨t502,A5,H⟩:=zB H
 by_cases c6:t502=0
 case neg=>
  rw [if_neg c6] at H
  obtain ⟨c6b0,c6b1⟩:=zX c6
  obtain ⟨rfl,rfl⟩:=zo2 H
  go_enter func79,ntmps79
  go_wp2_with (first|(refine box_ev 2 #[.string a0_0,.string a0_1] 61 ?_;intro gb499 hg w25 hbox hb;have BK499:=aZ hbox;have GE499:=sG hg;replace HB:=sB hb;clear hb hbox hg)|(refine box_ev 3 #[.string a1_0,.string a1_1] 61 ?_;intro gb500 hg w26 hbox hb;have BK500:=aZ hbox;have GE500:=sG hg;replace HB:=sB hb;obtain ⟨NB499_500,NB500_499,BK499⟩:=sX hg hb BK499;clear hb hbox hg;have hnb27:=NB499_500.out;have hnc27:=NB500_499.out;obtain ⟨hcz28_0,hfz28_0⟩:=zc BK499 0 (.string a0_0) rfl;obtain ⟨hcz28_1,hfz28_1⟩:=zc BK499 1 (.string a0_1) rfl)|(refine zg (some 9) func56 #[.agg #[.string a0_0,.string a0_1]] ?_;(with_reducible refine (Y8.calls k a0_0 a0_1 t501 _ A3.out).mono ?_);rintro e w29 ⟨rfl,hb⟩;refine ⟨_,rfl,?_⟩;replace BK499:=sK BK499 hb;replace BK500:=sK BK500 hb;replace HB:=sB hb;clear hb;obtain ⟨hcz30_0,hfz30_0⟩:=zc BK500 0 (.string a1_0) rfl;obtain ⟨hcz30_1,hfz30_1⟩:=zc BK500 1 (.string a1_1) rfl)|(refine zg (some 14) func56 #[.agg #[.string a1_0,.string a1_1]] ?_;(with_reducible refine (Y8.calls k a1_0 a1_1 t502 _ A5.out).mono ?_);rintro e w31 ⟨rfl,hb⟩;refine ⟨_,rfl,?_⟩;replace BK499:=sK BK499 hb;replace BK500:=sK BK500 hb;replace HB:=sB hb;clear hb))
  go_ret2
  exact ⟨ze,bw⟩
 rw [if_pos c6] at H
 obtain ⟨c6b0,c6b1⟩:=zY c6
 clear c6
 obtain ⟨⟨t503,t504,t507⟩,A7,H⟩:=zB H
 (try dsimp only at H)
 obtain ⟨⟨t510,t511,t514⟩,A8,H⟩:=zB H
 (try dsimp only at H)
 obtain ⟨t517,A9,H⟩:=zB H
 obtain ⟨rfl,rfl⟩:=zo2 H
 go_enter func79,ntmps79
 try go_wp2_with (first|(refine box_ev 2 #[.string a0_0,.string a0_1] 61 ?_;intro gb499 hg w10 hbox hb;have BK499:=aZ hbox;have GE499:=sG hg;replace HB:=sB hb;clear hb hbox hg)|(refine box_ev 3 #[.string a1_0,.string a1_1] 61 ?_;intro gb500 hg w11 hbox hb;have BK500:=aZ hbox;have GE500:=sG hg;replace HB:=sB hb;obtain ⟨NB499_500,NB500_499,BK499⟩:=sX hg hb BK499;clear hb hbox hg;have hnb12:=NB499_500.out;have hnc12:=NB500_499.out;obtain ⟨hcz13_0,hfz13_0⟩:=zc BK499 0 (.string a0_0) rfl;obtain ⟨hcz13_1,hfz13_1⟩:=zc BK499 1 (.string a0_1) rfl)|(refine zg (some 9) func56 #[.agg #[.string a0_0,.string a0_1]] ?_;(with_reducible refine (Y8.calls k a0_0 a0_1 t501 _ A3.out).mono ?_);rintro e w14 ⟨rfl,hb⟩;refine ⟨_,rfl,?_⟩;replace BK499:=sK BK499 hb;replace BK500:=sK BK500 hb;replace HB:=sB hb;clear hb;obtain ⟨hcz15_0,hfz15_0⟩:=zc BK500 0 (.string a1_0) rfl;obtain ⟨hcz15_1,hfz15_1⟩:=zc BK500 1 (.string a1_1) rfl)|(refine zg (some 14) func56 #[.agg #[.string a1_0,.string a1_1]] ?_;(with_reducible refine (Y8.calls k a1_0 a1_1 t502 _ A5.out).mono ?_);rintro e w16 ⟨rfl,hb⟩;refine ⟨_,rfl,?_⟩;replace BK499:=sK BK499 hb;replace BK500:=sK BK500 hb;replace HB:=sB hb;clear hb))
 replace BK499:=aZ (blk_drew BK499.out)
 replace BK500:=aZ (blk_drew BK500.out)
 replace HB:=aZ (below_drew1 HB.out)
 refine start_ (n:=7) (S:=fun w'=>w'.cell? ⟨gb499,0,none⟩=some (.string a0_0)∧w'.cell? ⟨gb499,1,none⟩=some (.string a0_1)∧w'.cell? ⟨gb500,0,none⟩=some (.string a1_0)∧w'.cell? ⟨gb500,1,none⟩=some (.string a1_1)) (ds:=[]) #[false,false,false,false,false,false,false] (by kernel_rfl) rfl rfl ⟨zh BK499 0,zh BK499 1,zh BK500 0,zh BK500 1⟩ (fun hHeld=>?_)
 generalize w16.drew=w17 at BK499 BK500 HB hHeld ⊢
 refine tv 0 (some 18) hHeld ?_
 refine tv 2 (some 20) hHeld ?_
 refine one_ (i:=1) (N:=some 19) #[true,true,true,false,false,false,false] rfl rfl (by kernel_rfl) (by decide) (fun K hK=>?_)
 refine goes_ func127 (by kernel_rfl) rfl #[.agg #[.string a0_0,.string a0_1]] (by rfl) rfl rfl zm ?_
 with_reducible refine (YU.calls k a0_0 a0_1 t503 t504 t507 _ A7.out).mono ?_
 rintro e w18 ⟨v505,v508,rfl,ho0,ho1,hb⟩
 refine ⟨_,rfl,?_⟩
 have HO506:=yL (fun k_=>k_≠gb499∧k_≠gb500) ho0 (fun k_ hk_=>⟨(zf BK499 hk_),(zf BK500 hk_)⟩)
 have HO509:=yL (fun k_=>k_≠gb499∧k_≠gb500) ho1 (fun k_ hk_=>⟨(zf BK499 hk_),(zf BK500 hk_)⟩)
 replace BK499:=sK BK499 hb
 replace BK500:=sK BK500 hb
 replace HB:=sB hb
 clear hb ho0 ho1
 refine hK.out _ _ ⟨zh BK499 0,zh BK499 1,zh BK500 0,zh BK500 1⟩ (fun hHeld=>?_)
 clear hK K
 refine nm ?_
 refine one_ (i:=3) (N:=some 21) #[true,true,true,true,false,false,false] rfl rfl (by kernel_rfl) (by decide) (fun K hK=>?_)
 refine goes_ func127 (by kernel_rfl) rfl #[.agg #[.string a1_0,.string a1_1]] (by rfl) rfl rfl zm ?_
 with_reducible refine (YU.calls k a1_0 a1_1 t510 t511 t514 _ A8.out).mono ?_
 rintro e w19 ⟨v512,v515,rfl,ho0,ho1,hb⟩
 refine ⟨_,rfl,?_⟩
 replace HO506:=yV HO506 hb
 replace HO509:=yV HO509 hb
 have HO513:=yL (fun k_=>k_≠gb499∧k_≠gb500) ho0 (fun k_ hk_=>⟨(zf BK499 hk_),(zf BK500 hk_)⟩)
 have HO516:=yL (fun k_=>k_≠gb499∧k_≠gb500) ho1 (fun k_ hk_=>⟨(zf BK499 hk_),(zf BK500 hk_)⟩)
 replace BK499:=sK BK499 hb
 replace BK500:=sK BK500 hb
 replace HB:=sB hb
 clear hb ho0 ho1
 obtain ⟨Ao20,co20,eo20⟩:=Kd.V_slice HO506.out
 (first|subst eo20|(injection eo20 with f1_ f2_ f3_;have f4_:=f1_.symm;have f5_:=f3_.symm;clear f1_ f2_ f3_;subst f4_;subst f5_))
 obtain ⟨Ao21,co21,eo21⟩:=Kd.V_slice HO509.out
 (first|subst eo21|(injection eo21 with f1_ f2_ f3_;have f4_:=f1_.symm;have f5_:=f3_.symm;clear f1_ f2_ f3_;subst f4_;subst f5_))
 obtain ⟨Ao22,co22,eo22⟩:=Kd.V_slice HO513.out
 (first|subst eo22|(injection eo22 with f1_ f2_ f3_;have f4_:=f1_.symm;have f5_:=f3_.symm;clear f1_ f2_ f3_;subst f4_;subst f5_))
 obtain ⟨Ao23,co23,eo23⟩:=Kd.V_slice HO516.out
 (first|subst eo23|(injection eo23 with f1_ f2_ f3_;have f4_:=f1_.symm;have f5_:=f3_.symm;clear f1_ f2_ f3_;subst f4_;subst f5_))
 refine hK.out _ _ ⟨zh BK499 0,zh BK499 1,zh BK500 0,zh BK500 1⟩ (fun hHeld=>?_)
 clear hK K
 refine nm ?_
 refine one_ (i:=4) (N:=some 22) #[true,true,true,true,true,false,false] rfl rfl (by kernel_rfl) (by decide) (fun K hK=>?_)
 refine goes_ func131 (by kernel_rfl) rfl #[.agg #[.bool t503,.slice Ao20 t504.length co20,.slice Ao21 t507.length co21],.agg #[.bool t510,.slice Ao22 t511.length co22,.slice Ao23 t514.length co23]] (by rfl) rfl rfl zm ?_
 with_reducible refine (Y0a.calls k t503 _ _ t504 _ _ t507 t510 _ _ t511 _ _ t514 t517 _ (zC (Kd.V_reads' HO506.out).2.2) ((Kd.V_reads' HO506.out).2.1) (zC (Kd.V_reads' HO509.out).2.2) ((Kd.V_reads' HO509.out).2.1) (zC (Kd.V_reads' HO513.out).2.2) ((Kd.V_reads' HO513.out).2.1) (zC (Kd.V_reads' HO516.out).2.2) ((Kd.V_reads' HO516.out).2.1) A9.out).mono ?_
 rintro e w24 ⟨rfl,hb⟩
 refine ⟨_,rfl,?_⟩
 replace HO506:=yV HO506 hb
 replace HO509:=yV HO509 hb
 replace HO513:=yV HO513 hb
 replace HO516:=yV HO516 hb
 replace BK499:=sK BK499 hb
 replace BK500:=sK BK500 hb
 replace HB:=sB hb
 clear hb
 refine hK.out _ _ ⟨zh BK499 0,zh BK499 1,zh BK500 0,zh BK500 1⟩ (fun hHeld=>?_)
 clear hK K
 refine nm ?_
 refine pv 5 (some 4) ?_
 refine pv 6 (some 5) ?_
 refine done_ (by kernel_rfl) ?_
 try go_wp2
 go_ret2
 exact ⟨ze,bw⟩
def Y0c.f (a0_0:Bool) (l0_1:List Int) (l0_2:List Int):Option (Int):=if (l0_1.length:Int)=0 then (some 0) else (if a0_0=true then (some (-1)) else (some 1))
theorem Y0c.calls (a0_0:Bool) (A0_1:Option Addr) (c0_1:Nat) (l0_1:List Int) (A0_2:Option Addr) (c0_2:Nat) (l0_2:List Int) (r:Int) (w:World) (hr0_1:Kd.C (Kd.int .i64) w A0_1 l0_1.length l0_1) (hc0_1:l0_1.length≤c0_1) (hr0_2:Kd.C (Kd.int .i64) w A0_2 l0_2.length l0_2) (hc0_2:l0_2.length≤c0_2) (h:Y0c.f a0_0 l0_1 l0_2=some r) :
  Calls Tryz.prog 61 #[.agg #[.bool a0_0,.slice A0_1 l0_1.length c0_1,.slice A0_2 l0_2.length c0_2]] w fun e w'=>e = .returned (.int .i64 r)∧Below w.heap.size w w':=by
 have hu67:=underlying67
 have HR0_1:=aZ hr0_1
 have HC0_1:=aZ hc0_1
 clear hr0_1 hc0_1
 have HR0_2:=aZ hr0_2
 have HC0_2:=aZ hc0_2
 clear hr0_2 hc0_2
 have HB:=aZ (Below.refl w.heap.size w)
 have H:=h
 unfold Y0c.f at H
 clear h
 by_cases c2:(l0_1.length:Int)=0
 case neg=>
  rw [if_neg c2] at H
  obtain ⟨c2b0,c2b1⟩:=zX c2
  have c2b2:¬ (l0_1=[]):=fun h_=>c2 (by rw [h_];rfl)
  by_cases c5:a0_0=true
  case neg=>
   replace c5:=Bool.eq_false_iff.mpr c5
   subst c5
   replace H:=zU H
   obtain rfl:=Option.some.inj H
   go_enter func61,ntmps61
   go_wp2_with (first|(refine box_ev 1 #[.bool false,.slice A0_1 l0_1.length c0_1,.slice A0_2 l0_2.length c0_2] 67 ?_;intro gb518 hg w8 hbox hb;have BK518:=aZ hbox;have GE518:=sG hg;replace HB:=sB hb;clear hb hbox hg;obtain ⟨hcz9_0,hfz9_0⟩:=zc BK518 0 (.bool false) rfl;obtain ⟨hcz9_1,hfz9_1⟩:=zc BK518 1 (.slice A0_1 l0_1.length c0_1) rfl;obtain ⟨hcz9_2,hfz9_2⟩:=zc BK518 2 (.slice A0_2 l0_2.length c0_2) rfl))
   go_ret
   exact ⟨ze,bw⟩
  subst c5
  replace H:=zT H
  obtain rfl:=Option.some.inj H
  go_enter func61,ntmps61
  go_wp2_with (first|(refine box_ev 1 #[.bool true,.slice A0_1 l0_1.length c0_1,.slice A0_2 l0_2.length c0_2] 67 ?_;intro gb518 hg w6 hbox hb;have BK518:=aZ hbox;have GE518:=sG hg;replace HB:=sB hb;clear hb hbox hg;obtain ⟨hcz7_0,hfz7_0⟩:=zc BK518 0 (.bool true) rfl;obtain ⟨hcz7_1,hfz7_1⟩:=zc BK518 1 (.slice A0_1 l0_1.length c0_1) rfl;obtain ⟨hcz7_2,hfz7_2⟩:=zc BK518 2 (.slice A0_2 l0_2.length c0_2) rfl))
  go_ret
  exact ⟨ze,bw⟩
 rw [if_pos c2] at H
 obtain ⟨c2b0,c2b1⟩:=zY c2
 clear c2
 obtain rfl:=Option.some.inj H
 go_enter func61,ntmps61
 go_wp2_with (first|(refine box_ev 1 #[.bool a0_0,.slice A0_1 l0_1.length c0_1,.slice A0_2 l0_2.length c0_2] 67 ?_;intro gb518 hg w3 hbox hb;have BK518:=aZ hbox;have GE518:=sG hg;replace HB:=sB hb;clear hb hbox hg;obtain ⟨hcz4_0,hfz4_0⟩:=zc BK518 0 (.bool a0_0) rfl;obtain ⟨hcz4_1,hfz4_1⟩:=zc BK518 1 (.slice A0_1 l0_1.length c0_1) rfl;obtain ⟨hcz4_2,hfz4_2⟩:=zc BK518 2 (.slice A0_2 l0_2.length c0_2) rfl))
 go_ret
 exact ⟨ze,bw⟩
def Yz.j0:Nat→Bool→List Int→List Int→List Int→Bool→Option (Bool×List Int×List Int)
 | 0,_,_,_,_,_=>none
 | k+1,x0,x1,x2,x7,x19=>if x19=true then ((Y2.f k x1 x7).bind fun bt524=>((Y2.f k x2 x7).bind fun bt530=>(if x0=true then (some (decide (0<bt524.1.length),bt524.1,bt530.1)) else (some (false,bt524.1,bt530.1))))) else (if x0=true then (some (decide (0<x1.length),x1,x2)) else (some (false,x1,x2)))
def Yz.f (k:Nat) (a0:Bool) (l1:List Int) (l2:List Int):Option (Bool×List Int×List Int):=(Yx.f k l1 l2).bind fun t520=>(if (t520.length:Int)=1 then (if 0<(t520.length:Int) then (Yz.j0 k a0 l1 l2 t520 ((rd t520 0) != 1)) else (none)) else (Yz.j0 k a0 l1 l2 t520 true))
theorem Yz.calls (k:Nat) (a0:Bool) (P1_:Nat→Prop) (A1:Option Addr) (c1:Nat) (l1:List Int) (P2_:Nat→Prop) (A2:Option Addr) (c2:Nat) (l2:List Int) (r1:Bool) (r2:List Int) (r3:List Int) (w:World) (hs1:Kd.V (Kd.int .i64) 3 w w.heap.size (fun k_=>P1_ k_) (.slice A1 l1.length c1) l1) (hs2:Kd.V (Kd.int .i64) 3 w w.heap.size (fun k_=>P2_ k_) (.slice A2 l2.length c2) l2) (h:Yz.f k a0 l1 l2=some (r1,r2,r3)) :
  Calls Tryz.prog 101 #[.bool a0,.slice A1 l1.length c1,.slice A2 l2.length c2] w fun e w'=>∃ v1_ v2_:Value,e = .returned (.agg #[.bool r1,v1_,v2_])∧Kd.V (Kd.int .i64) 3 w' w.heap.size (fun k_=>((P1_ k_∨P2_ k_)∨w.heap.size≤k_)) v1_ r2∧Kd.V (Kd.int .i64) 3 w' w.heap.size (fun k_=>((P1_ k_∨P2_ k_)∨w.heap.size≤k_)) v2_ r3∧Below w.heap.size w w':=by
 have hu67:=underlying67
 have HO1:=aZ (show Kd.V (Kd.int .i64) 3 w w.heap.size (fun k_=>((P1_ k_∨P2_ k_)∨w.heap.size≤k_)) (.slice A1 l1.length c1) l1 from Kd.V_mono hs1 (fun k_ hk=>.inl (.inl hk)))
 have HO2:=aZ (show Kd.V (Kd.int .i64) 3 w w.heap.size (fun k_=>((P1_ k_∨P2_ k_)∨w.heap.size≤k_)) (.slice A2 l2.length c2) l2 from Kd.V_mono hs2 (fun k_ hk=>.inl (.inr hk)))
 have HB:=aZ (Below.refl w.heap.size w)
 have H:=h
 unfold Yz.f at H
 clear h
 obtain ⟨t520,A4,H⟩:=zB H
 have HC5:=aZ H
 clear H
 go_enter func101,ntmps101
 go_upto_region 2 with (first|((with_reducible refine gate_dst (N:=6) rfl ?_);(try (refine gate_guard (by rfl) ?_;dsimp only));refine box_ev 6 #[.bool false,.slice none 0 0,.slice none 0 0] 67 ?_;intro gb519 hg w6 hbox hb;replace HO1:=yE HO1 hg hb;replace HO2:=yE HO2 hg hb;have BK519:=aZ hbox;have GE519:=sG hg;replace HB:=sB hb;clear hb hbox hg)|(refine zg (some 10) func104 #[.slice A1 l1.length c1,.slice A2 l2.length c2] ?_;(with_reducible refine (Yx.calls k (fun k_=>(((P1_ k_∨P2_ k_)∨w.heap.size≤k_)∧k_≠gb519)) _ _ l1 (fun k_=>(((P1_ k_∨P2_ k_)∨w.heap.size≤k_)∧k_≠gb519)) _ _ l2 t520 _ HO1.out HO2.out A4.out).mono ?_);rintro e w7 ⟨v521,rfl,ho0,hb⟩;refine ⟨_,rfl,?_⟩;replace HO1:=yV HO1 hb;replace HO2:=yV HO2 hb;have HO522:=yL (fun k_=>((P1_ k_∨P2_ k_)∨w.heap.size≤k_)∧k_≠gb519) ho0 (fun k_ hk_=>⟨Or.elim hk_ (fun hs_=>Or.elim hs_ (fun hs_=>hs_.1) (fun hs_=>hs_.1)) (fun hn_=>(.inr (Nat.le_trans bs hn_))),Or.elim hk_ (fun hs_=>Or.elim hs_ (fun hs_=>hs_.2) (fun hs_=>hs_.2)) (fun hn_=>(zf BK519 hn_))⟩);replace BK519:=sK BK519 hb;replace HB:=sB hb;clear hb ho0))
 (try simp only [Act.put,List.setIfInBounds_toArray,List.set_cons_zero,List.set_cons_succ])
 go_cut [19] (fun v19 wc=>∃ (kq:Nat) (x19_4:Bool),v19 = .bool x19_4∧Aside0 (Yz.j0 kq a0 l1 l2 t520 x19_4=some (r1,r2,r3))∧Aside0 (kq≤k)∧Aside0 (Kd.V (Kd.int .i64) 3 wc w.heap.size (fun k_=>((P1_ k_∨P2_ k_)∨w.heap.size≤k_)∧k_≠gb519) (.slice A1 l1.length c1) l1)∧Aside0 (Kd.V (Kd.int .i64) 3 wc w.heap.size (fun k_=>((P1_ k_∨P2_ k_)∨w.heap.size≤k_)∧k_≠gb519) (.slice A2 l2.length c2) l2)∧Aside0 (Kd.V (Kd.int .i64) 3 wc w.heap.size (fun k_=>((P1_ k_∨P2_ k_)∨w.heap.size≤k_)∧k_≠gb519) v521 t520)∧Aside0 (wc.heap[gb519]? = some (.cells #[.bool false,(.slice none 0 0),(.slice none 0 0)] 67 (0,0)))∧Aside0 (Below w.heap.size w wc))
 case first =>
  have H:=HC5.out
  clear HC5
  by_cases c8:(t520.length:Int)=1
  case neg=>
   rw [if_neg c8] at H
   obtain ⟨c8b0,c8b1⟩:=zX c8
   (first|rw [c8b0]|(simp only [i64_w,i32_w];rw [c8b0])|skip)
   have H':=aZ H
   clear H
   obtain ⟨Ao11,co11,rfl⟩:=Kd.V_slice HO522.out
   go_wp2
   go_meet
   case rel=>exact ⟨_,(true),zs,H',⟨by first|omega|exact Nat.le_refl _⟩,⟨zV HO1⟩,⟨zV HO2⟩,⟨zV HO522⟩,⟨zb BK519⟩,⟨bw⟩⟩
  rw [if_pos c8] at H
  obtain ⟨c8b0,c8b1⟩:=zY c8
  clear c8
  (first|rw [c8b0]|(simp only [i64_w,i32_w];rw [c8b0])|skip)
  by_cases c9:0<(t520.length:Int)
  case neg=>
   rw [if_neg c9] at H
   cases H
  rw [if_pos c9] at H
  have c9b0:=decide_eq_true c9
  have c9b1:decide (0<t520.length)=true:=decide_eq_true (by omega)
  clear c9
  have H':=aZ H
  clear H
  obtain ⟨Ao10,co10,rfl⟩:=Kd.V_slice HO522.out
  have p523:0≤(0:Int):=(by omega)
  have q523:0<(t520.length:Int):=zd
  obtain ⟨ad523,e523,hx523_0⟩:=Kd.at_int (Kd.V_reads' HO522.out).2.2 0 p523 q523
  cases e523
  have qi523:(0<t520.length)=True:=eq_true (by omega)
  (try rw [show ((0:Int)).toNat=0 from rfl] at hx523_0)
  (try rw [Addr.add_zero'] at hx523_0)
  replace p523:=eq_true p523
  replace q523:=eq_true q523
  go_wp2
  go_meet
  case rel=>exact ⟨_,(((rd t520 0) != 1)),zs,H',⟨by first|omega|exact Nat.le_refl _⟩,⟨zV HO1⟩,⟨zV HO2⟩,⟨zV HO522⟩,⟨zb BK519⟩,⟨bw⟩⟩
 case rest =>
  clear HC5
  obtain ⟨kq,x19_4,rfl,HA,HJ4,HO_1,HO_2,HO_7,BK519,HB⟩:=hcut
  cases kq with
  | zero=>exact absurd HA.out (by simp [Yz.j0])
  | succ kj4 =>
   have H:=HA.out
   clear HA
   simp only [Yz.j0] at H
   by_cases c12:x19_4=true
   case neg=>
    replace c12:=Bool.eq_false_iff.mpr c12
    subst c12
    replace H:=zU H
    by_cases c28:a0=true
    case neg=>
     replace c28:=Bool.eq_false_iff.mpr c28
     subst c28
     replace H:=zU H
     obtain ⟨rfl,rfl,rfl⟩:=zo3 H
     obtain ⟨hcz30_0,hfz30_0⟩:=zc BK519 0 (.bool false) rfl
     obtain ⟨hcz30_1,hfz30_1⟩:=zc BK519 1 (.slice none 0 0) rfl
     obtain ⟨hcz30_2,hfz30_2⟩:=zc BK519 2 (.slice none 0 0) rfl
     go_wp2
     refine bodyPost_ret (results_cell_row rfl _ _ gb519 67 #[.bool false,.slice A1 l1.length c1,.slice A2 l2.length c2] (0,0) _ rfl (zp BK519) underlying67 rfl (by kernel_rfl)) rfl ?_
     exact ⟨_,_,ze,zF HO_1,zF HO_2,bw⟩
    subst c28
    replace H:=zT H
    obtain ⟨rfl,rfl,rfl⟩:=zo3 H
    obtain ⟨hcz29_0,hfz29_0⟩:=zc BK519 0 (.bool false) rfl
    obtain ⟨hcz29_1,hfz29_1⟩:=zc BK519 1 (.slice none 0 0) rfl
    obtain ⟨hcz29_2,hfz29_2⟩:=zc BK519 2 (.slice none 0 0) rfl
    go_wp2
    refine bodyPost_ret (results_cell_row rfl _ _ gb519 67 #[.bool (decide (0<l1.length)),.slice A1 l1.length c1,.slice A2 l2.length c2] (0,0) _ rfl (zp BK519) underlying67 rfl (by kernel_rfl)) rfl ?_
    exact ⟨_,_,ze,zF HO_1,zF HO_2,bw⟩
   subst c12
   replace H:=zT H
   obtain ⟨⟨t524,t527⟩,A13,H⟩:=zB H
   (try dsimp only at H)
   obtain ⟨⟨t530,t533⟩,A14,H⟩:=zB H
   (try dsimp only at H)
   by_cases c15:a0=true
   case neg=>
    replace c15:=Bool.eq_false_iff.mpr c15
    subst c15
    replace H:=zU H
    obtain ⟨rfl,rfl,rfl⟩:=zo3 H
    obtain ⟨Ao22,co22,rfl⟩:=Kd.V_slice HO_7.out
    go_wp2_with (first|(refine zg (some 23) func134 #[.slice A1 l1.length c1,.slice Ao22 t520.length co22] ?_;(with_reducible refine (Y2.calls kj4 (fun k_=>(((P1_ k_∨P2_ k_)∨w.heap.size≤k_)∧k_≠gb519)) _ _ l1 _ _ t520 t524 t527 _ HO_1.out (zC (Kd.V_reads' HO_7.out).2.2) ((Kd.V_reads' HO_7.out).2.1) A13.out).mono ?_);rintro e w23 ⟨v525,v528,rfl,ho0,ho1,hb⟩;refine ⟨_,rfl,?_⟩;replace HO_1:=yV HO_1 hb;replace HO_2:=yV HO_2 hb;replace HO_7:=yV HO_7 hb;have HO526:=yL (fun k_=>((P1_ k_∨P2_ k_)∨w.heap.size≤k_)∧k_≠gb519) ho0 (fun k_ hk_=>⟨Or.elim hk_ (fun hs_=>hs_.1) (fun hn_=>(.inr (Nat.le_trans bs hn_))),Or.elim hk_ (fun hs_=>hs_.2) (fun hn_=>(zf BK519 hn_))⟩);have HO529:=yL (fun k_=>((P1_ k_∨P2_ k_)∨w.heap.size≤k_)∧k_≠gb519) ho1 (fun k_ hk_=>⟨Or.elim hk_ (fun hs_=>hs_.1) (fun hn_=>(.inr (Nat.le_trans bs hn_))),Or.elim hk_ (fun hs_=>hs_.2) (fun hn_=>(zf BK519 hn_))⟩);replace BK519:=sK BK519 hb;replace HB:=sB hb;clear hb ho0 ho1)|(refine zg (some 29) func134 #[.slice A2 l2.length c2,.slice Ao22 t520.length co22] ?_;(with_reducible refine (Y2.calls kj4 (fun k_=>(((P1_ k_∨P2_ k_)∨w.heap.size≤k_)∧k_≠gb519)) _ _ l2 _ _ t520 t530 t533 _ HO_2.out (zC (Kd.V_reads' HO_7.out).2.2) ((Kd.V_reads' HO_7.out).2.1) A14.out).mono ?_);rintro e w24 ⟨v531,v534,rfl,ho0,ho1,hb⟩;refine ⟨_,rfl,?_⟩;replace HO_1:=yV HO_1 hb;replace HO_2:=yV HO_2 hb;replace HO_7:=yV HO_7 hb;replace HO526:=yV HO526 hb;replace HO529:=yV HO529 hb;have HO532:=yL (fun k_=>((P1_ k_∨P2_ k_)∨w.heap.size≤k_)∧k_≠gb519) ho0 (fun k_ hk_=>⟨Or.elim hk_ (fun hs_=>hs_.1) (fun hn_=>(.inr (Nat.le_trans bs hn_))),Or.elim hk_ (fun hs_=>hs_.2) (fun hn_=>(zf BK519 hn_))⟩);have HO535:=yL (fun k_=>((P1_ k_∨P2_ k_)∨w.heap.size≤k_)∧k_≠gb519) ho1 (fun k_ hk_=>⟨Or.elim hk_ (fun hs_=>hs_.1) (fun hn_=>(.inr (Nat.le_trans bs hn_))),Or.elim hk_ (fun hs_=>hs_.2) (fun hn_=>(zf BK519 hn_))⟩);replace BK519:=sK BK519 hb;replace HB:=sB hb;clear hb ho0 ho1;obtain ⟨Ao25,co25,rfl⟩:=Kd.V_slice HO532.out;obtain ⟨Ao26,co26,rfl⟩:=Kd.V_slice HO526.out;obtain ⟨hcz27_0,hfz27_0⟩:=zc BK519 0 (.bool false) rfl;obtain ⟨hcz27_1,hfz27_1⟩:=zc BK519 1 (.slice none 0 0) rfl;obtain ⟨hcz27_2,hfz27_2⟩:=zc BK519 2 (.slice none 0 0) rfl))
    refine bodyPost_ret (results_cell_row rfl _ _ gb519 67 #[.bool false,.slice Ao26 t524.length co26,.slice Ao25 t530.length co25] (0,0) _ rfl (zp BK519) underlying67 rfl (by kernel_rfl)) rfl ?_
    exact ⟨_,_,ze,zF HO526,zF HO532,bw⟩
   subst c15
   replace H:=zT H
   obtain ⟨rfl,rfl,rfl⟩:=zo3 H
   obtain ⟨Ao16,co16,rfl⟩:=Kd.V_slice HO_7.out
   go_wp2_with (first|(refine zg (some 23) func134 #[.slice A1 l1.length c1,.slice Ao16 t520.length co16] ?_;(with_reducible refine (Y2.calls kj4 (fun k_=>(((P1_ k_∨P2_ k_)∨w.heap.size≤k_)∧k_≠gb519)) _ _ l1 _ _ t520 t524 t527 _ HO_1.out (zC (Kd.V_reads' HO_7.out).2.2) ((Kd.V_reads' HO_7.out).2.1) A13.out).mono ?_);rintro e w17 ⟨v525,v528,rfl,ho0,ho1,hb⟩;refine ⟨_,rfl,?_⟩;replace HO_1:=yV HO_1 hb;replace HO_2:=yV HO_2 hb;replace HO_7:=yV HO_7 hb;have HO526:=yL (fun k_=>((P1_ k_∨P2_ k_)∨w.heap.size≤k_)∧k_≠gb519) ho0 (fun k_ hk_=>⟨Or.elim hk_ (fun hs_=>hs_.1) (fun hn_=>(.inr (Nat.le_trans bs hn_))),Or.elim hk_ (fun hs_=>hs_.2) (fun hn_=>(zf BK519 hn_))⟩);have HO529:=yL (fun k_=>((P1_ k_∨P2_ k_)∨w.heap.size≤k_)∧k_≠gb519) ho1 (fun k_ hk_=>⟨Or.elim hk_ (fun hs_=>hs_.1) (fun hn_=>(.inr (Nat.le_trans bs hn_))),Or.elim hk_ (fun hs_=>hs_.2) (fun hn_=>(zf BK519 hn_))⟩);replace BK519:=sK BK519 hb;replace HB:=sB hb;clear hb ho0 ho1)|(refine zg (some 29) func134 #[.slice A2 l2.length c2,.slice Ao16 t520.length co16] ?_;(with_reducible refine (Y2.calls kj4 (fun k_=>(((P1_ k_∨P2_ k_)∨w.heap.size≤k_)∧k_≠gb519)) _ _ l2 _ _ t520 t530 t533 _ HO_2.out (zC (Kd.V_reads' HO_7.out).2.2) ((Kd.V_reads' HO_7.out).2.1) A14.out).mono ?_);rintro e w18 ⟨v531,v534,rfl,ho0,ho1,hb⟩;refine ⟨_,rfl,?_⟩;replace HO_1:=yV HO_1 hb;replace HO_2:=yV HO_2 hb;replace HO_7:=yV HO_7 hb;replace HO526:=yV HO526 hb;replace HO529:=yV HO529 hb;have HO532:=yL (fun k_=>((P1_ k_∨P2_ k_)∨w.heap.size≤k_)∧k_≠gb519) ho0 (fun k_ hk_=>⟨Or.elim hk_ (fun hs_=>hs_.1) (fun hn_=>(.inr (Nat.le_trans bs hn_))),Or.elim hk_ (fun hs_=>hs_.2) (fun hn_=>(zf BK519 hn_))⟩);have HO535:=yL (fun k_=>((P1_ k_∨P2_ k_)∨w.heap.size≤k_)∧k_≠gb519) ho1 (fun k_ hk_=>⟨Or.elim hk_ (fun hs_=>hs_.1) (fun hn_=>(.inr (Nat.le_trans bs hn_))),Or.elim hk_ (fun hs_=>hs_.2) (fun hn_=>(zf BK519 hn_))⟩);replace BK519:=sK BK519 hb;replace HB:=sB hb;clear hb ho0 ho1;obtain ⟨Ao19,co19,rfl⟩:=Kd.V_slice HO526.out;obtain ⟨Ao20,co20,rfl⟩:=Kd.V_slice HO532.out;obtain ⟨hcz21_0,hfz21_0⟩:=zc BK519 0 (.bool false) rfl;obtain ⟨hcz21_1,hfz21_1⟩:=zc BK519 1 (.slice none 0 0) rfl;obtain ⟨hcz21_2,hfz21_2⟩:=zc BK519 2 (.slice none 0 0) rfl))
   refine bodyPost_ret (results_cell_row rfl _ _ gb519 67 #[.bool (decide (0<t524.length)),.slice Ao19 t524.length co19,.slice Ao20 t530.length co20] (0,0) _ rfl (zp BK519) underlying67 rfl (by kernel_rfl)) rfl ?_
   exact ⟨_,_,ze,zF HO526,zF HO532,bw⟩
end Go.Proofs.YtaffkbemjbfajaaGreatDoor.PNumOrders
