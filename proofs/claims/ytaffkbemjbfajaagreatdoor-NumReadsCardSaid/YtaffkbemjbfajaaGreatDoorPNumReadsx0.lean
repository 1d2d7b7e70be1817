-- By a program of this session: functions as plain Lean functions, each with its proof over the machine.
import Derived.Test.YtaffkbemjbfajaaGreatDoorProg
import Derived.Below
import Derived.Deep.Draws
import Derived.Deep.AppendLies
import Derived.Maps.AppendAt
import Derived.OwnWalk
import Derived.Laws.BytesArg
import Derived.Laws.MakeOwn
import Derived.Laws.OwnMore
import Derived.Deep.OwnRows
import Derived.Tactics
import Derived.Lib.ConvBytes
import Derived.Laws.Slices
import Derived.WalkKit
import Derived.KernelRfl
import Derived.RowKit3
import Derived.Deep.LoopGhost
import Derived.Deep.QuietTactic
import Derived.BigQuiet
import Derived.WideLaws
import Derived.Deep.DeepCutAuto
import Derived.Deep.CutBlock
import Derived.Deep.RegionHeld3
import Derived.Laws.Rows
import Derived.Lib.AppendStr
import Derived.ArgAppend
import Derived.Laws.IdiomCopy
import Derived.OrdersHeld
import Derived.Laws.BitsLemmas
import Derived.RowKit
import Derived.Test.YtaffkbemjbfajaaGreatDoorFmt
import Derived.Test.YtaffkbemjbfajaaGreatDoorSeg
import Derived.Test.YtaffkbemjbfajaaGreatDoorIns
import Derived.Test.YtaffkbemjbfajaaGreatDoorSq
import Derived.Test.YtaffkbemjbfajaaGreatDoorShb
import Derived.Lib.SliceRun
import Derived.Lib.AtoiErrMem
import Derived.RangeFuncNested
import Derived.RangeFuncBound
import Derived.RangeFuncCalls
import Derived.RangeFuncLeaves
import Derived.Shelf.Abstract
import Derived.Shelf.RegionOpen
import Derived.OwnWalkIn
import Derived.TacticsInMore
import Derived.LoopNIn
import Derived.LoopIn
import Derived.RangeFuncBox
import Derived.Test.YtaffkbemjbfajaaGreatDoorShc
import Derived.Test.YtaffkbemjbfajaaGreatDoorWWords
import Derived.Test.YtaffkbemjbfajaaGreatDoorWLast
import Derived.Test.YtaffkbemjbfajaaGreatDoorWTab
import Derived.Test.YtaffkbemjbfajaaGreatDoorWFour
import Derived.Test.YtaffkbemjbfajaaGreatDoorWQPut
import Derived.Test.YtaffkbemjbfajaaGreatDoorWApart
import Derived.Test.YtaffkbemjbfajaaGreatDoorWArr
import Derived.Test.YtaffkbemjbfajaaGreatDoorWZeros
import Derived.Test.YtaffkbemjbfajaaGreatDoorWFoot
import Derived.Test.YtaffkbemjbfajaaGreatDoorWKept
import Derived.Test.YtaffkbemjbfajaaGreatDoorWShare
import Derived.Test.YtaffkbemjbfajaaGreatDoorWN
import Derived.Test.YtaffkbemjbfajaaGreatDoorWFootNe
import Derived.Test.YtaffkbemjbfajaaGreatDoorWAt
import Derived.Test.YtaffkbemjbfajaaGreatDoorWEqStruct
import Derived.Test.YtaffkbemjbfajaaGreatDoorWRepsOne
import Derived.Test.YtaffkbemjbfajaaGreatDoorWInv
import Derived.Test.YtaffkbemjbfajaaGreatDoorWInvWords
import Derived.Test.YtaffkbemjbfajaaGreatDoorWGuard
import Derived.Test.YtaffkbemjbfajaaGreatDoorWNEv
import Derived.Test.YtaffkbemjbfajaaGreatDoorWMore
namespace Go.Proofs.YtaffkbemjbfajaaGreatDoor.PNumReads
open Go.RowKit Go.Proofs.Tryz Go.Proofs.YtaffkbemjbfajaaGreatDoorW.PrintWords Go.Proofs.YtaffkbemjbfajaaGreatDoorW.PrintLast Go.Proofs.YtaffkbemjbfajaaGreatDoorW.PrintMore
attribute [local go_sem] max2_int min2_int max_two min_two max_three min_three max_four min_four
set_option linter.unusedVariables false
set_option linter.unusedSimpArgs false
set_option maxHeartbeats 8000000
set_option maxRecDepth 100000
def errW:Option Int→Value
 | none=>.nilIface
 | some c=>.iface 0 (.int .i64 c)
theorem errW_none:errW none = .nilIface:=rfl
theorem errW_some (c:Int):errW (some c) = .iface 0 (.int .i64 c):=rfl
theorem info3:(Tryz.prog.info? 3).map (fun i=>(i.zero,i.size,i.bytes))=some (some (.int .i64 0),1,8):=by kernel_rfl
theorem info5:(Tryz.prog.info? 5).map (fun i=>(i.zero,i.size,i.bytes))=some (some (.int .u8 0),1,1):=by kernel_rfl
theorem info97:(Tryz.prog.info? 97).map (fun i=>(i.zero,i.size,i.bytes))=some (some (.int .u32 0),1,4):=by kernel_rfl
-- the values' own types
theorem eqA61 (d:Nat) (w:World) (x0 y0:ByteArray) (x1 y1:ByteArray) :
  (Op.equalIn (d+2) 61 (.agg #[.string x0,.string x1]) (.agg #[.string y0,.string y1])).run Tryz.prog w = .ok (x0.toList==y0.toList&&(x1.toList==y1.toList)) w:=by
 refine eqA_of underlying61 (by kernel_rfl) ?_
 refine eqf_cons (by rfl) (by go_simp;rfl) (by go_simp;rfl) (by go_simp) ?_
 exact eqf_last (by rfl) (by go_simp;rfl) (by go_simp;rfl) (by go_simp)
def Yt.l0:Nat→Int→List Int→Option (List Int)
 | 0,_,_=>none
 | k+1,x0,x3=>if x0 > 0 then (if x3.length<35184372088832 then (Yt.l0 k (IntKind.u64.wrap (Int.tdiv x0 1000000000)) (x3++[(Int.tmod x0 1000000000)%4294967296])) else (none)) else (some x3)
def Yt.f (k:Nat) (a0:Int):Option (List Int):=Yt.l0 k a0 ([]:List Int)
theorem Yt.mono_l:∀ k,(∀ y0 y1,LeO (Yt.l0 k y0 y1) (Yt.l0 (k+1) y0 y1))
 | 0=>fun _ _ r h=>by simp [Yt.l0] at h
 | k+1=>by
  have ih0:=Yt.mono_l k
  ·intro y0 y1
   unfold Yt.l0
   exact zM
theorem Yt.mono:∀ a0 k,LeO (Yt.f k a0) (Yt.f (k+1) a0):=by
 intro a0 k
 have ih0:=Yt.mono_l k
 unfold Yt.f
 exact zM
theorem Yt.calls (k:Nat) (a0:Int) (r:List Int) (w:World) (h:Yt.f k a0=some r) :
  Calls Tryz.prog 136 #[.int .u64 a0] w fun e w'=>∃ v0_:Value,e = .returned (v0_)∧Kd.R (Kd.int .u32) 97 w' w.heap.size (fun _=>True) v0_ r∧Below w.heap.size w w':=by
 have HB:=aZ (Below.refl w.heap.size w)
 have H:=h
 unfold Yt.f at H
 clear h
 have H':=aZ H
 clear H
 go_enter func136,ntmps136
 go_wp2
 go_loopg [0,3] k (fun kq v0 v3 w'=>∃ (x0_1:Int) (x3_1:List Int),v0 = .int .u64 x0_1∧Aside0 (Yt.l0 kq x0_1 x3_1=some r)∧Aside0 (kq≤k)∧Aside0 (Kd.R (Kd.int .u32) 97 w' w.heap.size (fun _=>True) v3 x3_1)∧Aside0 (Below w.heap.size w w'))
 case atStart=>exact ⟨(a0),(([]:List Int)),zs,H',⟨Nat.le_refl _⟩,⟨by first|exact Kd.R_nil _ _ _ _ _|exact Kd.N_nil _ _ _ _ _|exact Kd.V_nil _ _ _ _ _|exact Kd.Q_nil _ _ _ _ _|exact Kd.S_nil _ _ _ _ _⟩,⟨bw⟩⟩
 case round =>
  clear H'
  try clear c1
  obtain ⟨x0_1,x3_1,rfl,HA,HK1,HO_3,HB⟩:=hrel
  cases gk with
  | zero=>exact absurd HA.out (by simp [Yt.l0])
  | succ k1 =>
   have H:=HA.out
   clear HA
   simp only [Yt.l0] at H
   by_cases c2:x0_1 > 0
   case neg=>
    rw [if_neg c2] at H
    have c2b0:=decide_eq_false c2
    clear c2
    obtain rfl:=Option.some.inj H
    go_wp2
    go_ret
    exact ⟨_,ze,zR HO_3,bw⟩
   rw [if_pos c2] at H
   have c2b0:=decide_eq_true c2
   clear c2
   by_cases c3:x3_1.length<35184372088832
   case neg=>
    rw [if_neg c3] at H
    cases H
   rw [if_pos c3] at H
   have LMc3:=aZ c3
   clear c3
   obtain ⟨y101,hy101⟩:∃ y_:List Int,y_=(x3_1++[(Int.tmod x0_1 1000000000)%4294967296]):=⟨_,rfl⟩
   replace H:(Yt.l0 k1 (IntKind.u64.wrap (Int.tdiv x0_1 1000000000)) y101)=some r:=zy hy101 H
   have Ny101:=aZ hy101
   clear hy101
   have H':=aZ H
   clear H
   go_wp2_with (first|((with_reducible refine gate_builtin (b:=.append) (xs:=#[.tmp 6,.tmp 10]) rfl ?_);at_builtin;refine Kd.R_append (Kd.int .u32) (w0:=w) w.heap.size rfl (.tmp 6) (.tmp 10) 101 97 (.int .u32 0) 4 rfl underlying101 info97 rfl (by decide) (by omega) u3 x3_1 ((Int.tmod x0_1 1000000000)%4294967296) [.int .u32 ((Int.tmod x0_1 1000000000)%4294967296)] (fun _=>True) (fun _=>False) rfl rfl ?aP (fun _ hk=>hk.elim) ?aF ?aO ?aB ?aS ?aL ?_;(case aP=>exact rfl);(case aB=>exact bw);(case aF=>exact (fun _ _=>trivial));(case aO=>exact (zR HO_3));(case aS=>exact bs);(case aL=>have:=LMc3.out;omega);intro v102 w4 ho hb hg hat;rw [← Ny101.out] at ho;replace HB:=aZ (hb);have HO103:=aZ (ho);clear HO_3;clear ho hb hg hat))
   go_roundg k1
   case measure=>have:=HK1.out;omega
   case rel=>exact ⟨(IntKind.u64.wrap (Int.tdiv x0_1 1000000000)),(y101),zs,H',⟨by have:=HK1.out;omega⟩,⟨zR HO103⟩,⟨bw⟩⟩
def YQ.f (k:Nat)  : Option (List Int):=(Yt.f k 1).bind fun t104=>(some t104)
theorem YQ.mono:∀ k,LeO (YQ.f k ) (YQ.f (k+1) ):=by
 intro  k
 unfold YQ.f
 have m0:=Yt.mono
 exact zM
theorem YQ.calls (k:Nat)  (r:List Int) (w:World) (h:YQ.f k  = some r) :
  Calls Tryz.prog 137 #[] w fun e w'=>∃ v0_:Value,e = .returned (v0_)∧Kd.R (Kd.int .u32) 97 w' w.heap.size (fun _=>True) v0_ r∧Below w.heap.size w w':=by
 have HB:=aZ (Below.refl w.heap.size w)
 have H:=h
 unfold YQ.f at H
 clear h
 obtain ⟨t104,A1,H⟩:=zB H
 obtain rfl:=Option.some.inj H
 go_enter func137,ntmps137
 go_wp2_with (first|(refine zg (some 1) func136 #[.int .u64 1] ?_;(with_reducible refine (Yt.calls k 1 t104 _ A1.out).mono ?_);rintro e w2 ⟨v105,rfl,ho0,hb⟩;refine ⟨_,rfl,?_⟩;have HO106:=aZ (Kd.R_lower ho0 bs);replace HB:=sB hb;clear hb ho0))
 go_ret
 exact ⟨_,ze,zR HO106,bw⟩
def YW.f (k:Nat) (a0:Int):Option (Bool×List Int×List Int):=if a0<0 then ((Yt.f k (IntKind.u64.wrap (-(IntKind.u64.wrap (a0))))).bind fun t108=>((YQ.f k).bind fun t111=>(some (true,t108,t111)))) else ((Yt.f k (IntKind.u64.wrap (a0))).bind fun t114=>((YQ.f k).bind fun t117=>(some (false,t114,t117))))
theorem YW.mono:∀ a0 k,LeO (YW.f k a0) (YW.f (k+1) a0):=by
 intro a0 k
 unfold YW.f
 have m0:=YQ.mono
 have m1:=Yt.mono
 exact zM
theorem YW.calls (k:Nat) (a0:Int) (r1:Bool) (r2:List Int) (r3:List Int) (w:World) (h:YW.f k a0=some (r1,r2,r3)) :
  Calls Tryz.prog 97 #[.int .i64 a0] w fun e w'=>∃ v1_ v2_:Value,e = .returned (.agg #[.bool r1,v1_,v2_])∧Kd.R (Kd.int .u32) 97 w' w.heap.size (fun k_=>some k_≠(v2_:Value).ownBlock) v1_ r2∧Kd.R (Kd.int .u32) 97 w' w.heap.size (fun k_=>some k_≠(v1_:Value).ownBlock) v2_ r3∧Below w.heap.size w w':=by
 have hu103:=underlying103
 have HB:=aZ (Below.refl w.heap.size w)
 have H:=h
 unfold YW.f at H
 clear h
 by_cases c2:a0<0
 case neg=>
  rw [if_neg c2] at H
  have c2b0:=decide_eq_false c2
  clear c2
  obtain ⟨t114,A11,H⟩:=zB H
  obtain ⟨t117,A12,H⟩:=zB H
  simp only [Option.some.injEq,Prod.mk.injEq] at H
  obtain ⟨rfl,rfl,rfl⟩:=H
  go_enter func97,ntmps97
  go_wp2_with (first|(refine box_ev 2 #[.bool false,.slice none 0 0,.slice none 0 0] 103 ?_;intro gb107 hg w13 hbox hb;have BK107:=aZ hbox;have GE107:=sG hg;replace HB:=sB hb;clear hb hbox hg)|(refine zg (some 13) func136 #[.int .u64 (IntKind.u64.wrap (a0))] ?_;(with_reducible refine (Yt.calls k (IntKind.u64.wrap (a0)) t114 _ A11.out).mono ?_);rintro e w14 ⟨v115,rfl,ho0,hb⟩;refine ⟨_,rfl,?_⟩;have HO116:=aZ (Kd.R_lower ho0 bs);replace BK107:=sK BK107 hb;replace HB:=sB hb;clear hb ho0)|(refine zg (some 14) func137 #[] ?_;(with_reducible refine (YQ.calls k  t117 _ A12.out).mono ?_);rintro e w15 ⟨v118,rfl,ho0,hb⟩;refine ⟨_,rfl,?_⟩;have HO119:=aZ (Kd.R_lower (Kd.R_new' ho0 (Kd.R_lt (zR HO116))) bs);replace HO116:=aZ (Kd.R_elder' (zR HO116) (Kd.R_base ho0) hb);replace BK107:=sK BK107 hb;replace HB:=sB hb;clear hb ho0;obtain ⟨Ao16,co16,rfl⟩:=Kd.R_slice HO119.out;obtain ⟨Ao17,co17,rfl⟩:=Kd.R_slice HO116.out;obtain ⟨hcz18_0,hfz18_0⟩:=zc BK107 0 (.bool false) rfl;obtain ⟨hcz18_1,hfz18_1⟩:=zc BK107 1 (.slice none 0 0) rfl;obtain ⟨hcz18_2,hfz18_2⟩:=zc BK107 2 (.slice none 0 0) rfl))
  refine bodyPost_ret (results_cell_row rfl _ _ gb107 103 #[.bool false,.slice Ao17 t114.length co17,.slice Ao16 t117.length co16] (0,0) _ rfl (zp BK107) underlying103 rfl (by kernel_rfl)) rfl ?_
  exact ⟨_,_,ze,zF ⟨Kd.R_types HO116.out BK107.out (by decide)⟩,zF ⟨Kd.R_types HO119.out BK107.out (by decide)⟩,bw⟩
 rw [if_pos c2] at H
 have c2b0:=decide_eq_true c2
 clear c2
 obtain ⟨t108,A3,H⟩:=zB H
 obtain ⟨t111,A4,H⟩:=zB H
 simp only [Option.some.injEq,Prod.mk.injEq] at H
 obtain ⟨rfl,rfl,rfl⟩:=H
 go_enter func97,ntmps97
 go_wp2_with (first|(refine box_ev 2 #[.bool false,.slice none 0 0,.slice none 0 0] 103 ?_;intro gb107 hg w5 hbox hb;have BK107:=aZ hbox;have GE107:=sG hg;replace HB:=sB hb;clear hb hbox hg)|(refine zg (some 8) func136 #[.int .u64 (IntKind.u64.wrap (-(IntKind.u64.wrap (a0))))] ?_;(with_reducible refine (Yt.calls k (IntKind.u64.wrap (-(IntKind.u64.wrap (a0)))) t108 _ A3.out).mono ?_);rintro e w6 ⟨v109,rfl,ho0,hb⟩;refine ⟨_,rfl,?_⟩;have HO110:=aZ (Kd.R_lower ho0 bs);replace BK107:=sK BK107 hb;replace HB:=sB hb;clear hb ho0)|(refine zg (some 9) func137 #[] ?_;(with_reducible refine (YQ.calls k  t111 _ A4.out).mono ?_);rintro e w7 ⟨v112,rfl,ho0,hb⟩;refine ⟨_,rfl,?_⟩;have HO113:=aZ (Kd.R_lower (Kd.R_new' ho0 (Kd.R_lt (zR HO110))) bs);replace HO110:=aZ (Kd.R_elder' (zR HO110) (Kd.R_base ho0) hb);replace BK107:=sK BK107 hb;replace HB:=sB hb;clear hb ho0;obtain ⟨Ao8,co8,rfl⟩:=Kd.R_slice HO113.out;obtain ⟨Ao9,co9,rfl⟩:=Kd.R_slice HO110.out;obtain ⟨hcz10_0,hfz10_0⟩:=zc BK107 0 (.bool false) rfl;obtain ⟨hcz10_1,hfz10_1⟩:=zc BK107 1 (.slice none 0 0) rfl;obtain ⟨hcz10_2,hfz10_2⟩:=zc BK107 2 (.slice none 0 0) rfl))
 refine bodyPost_ret (results_cell_row rfl _ _ gb107 103 #[.bool true,.slice Ao9 t108.length co9,.slice Ao8 t111.length co8] (0,0) _ rfl (zp BK107) underlying103 rfl (by kernel_rfl)) rfl ?_
 exact ⟨_,_,ze,zF ⟨Kd.R_types HO110.out BK107.out (by decide)⟩,zF ⟨Kd.R_types HO113.out BK107.out (by decide)⟩,bw⟩
section
def YC.f (l0:List Int):Option (List Int):=if l0.length<35184372088832 then some l0 else none
theorem YC.calls (A0:Option Addr) (c0:Nat) (l0:List Int) (r:List Int) (w:World) (hr0:Kd.C (Kd.int .u32) w A0 l0.length l0) (hc0:l0.length≤c0) (h:YC.f l0=some r) :
  Calls Tryz.prog 143 #[.slice A0 l0.length c0] w fun e w'=>∃ v0_:Value,e = .returned (v0_)∧Kd.R (Kd.int .u32) 97 w' w.heap.size (fun _=>True) v0_ r∧Below w.heap.size w w':=by
 unfold YC.f at h
 by_cases c2:l0.length<35184372088832
 case neg=>rw [if_neg c2] at h;cases h
 rw [if_pos c2] at h
 obtain rfl:=Option.some.inj h
 clear h
 cases A0 with
 | none =>
  have hz:l0=[]:=by
   rcases Nat.eq_zero_or_pos l0.length with h0|h0
   ·exact List.eq_nil_of_length_eq_zero h0
   ·obtain ⟨ad,e,_⟩:=hr0.2.2 h0;cases e
  subst hz
  have hnil:=fun (W:World)=>Lib.run_eql_slice_nil (P:=Tryz.prog) W 101 97 none 0 c0 0 0 underlying101
  clear hr0 hc0 c2
  go_enter func143,ntmps143
  go_wp2
  go_ret
  exact ⟨_,rfl,Kd.R_nil _ _ _ _ _,Below.refl _ _⟩
 | some ad =>
  have HR0:=aZ hr0
  clear hr0 hc0
  have hnil:=fun (W:World) (n:Nat)=>Lib.run_eql_slice_nil (P:=Tryz.prog) W 101 97 (some ad) n c0 0 0 underlying101
  have HB:=aZ (Below.refl w.heap.size w)
  have LMc2:=aZ c2
  clear c2
  have info97c:(Tryz.prog.info? 97).map (fun i=>(i.zero,i.size,i.bytes))=some (some (.int .u32 0),1,4):=by kernel_rfl
  have I:=aZ info97c
  clear info97c
  go_enter func143,ntmps143
  go_wp2_with (first|((with_reducible refine gate_dst (N:=5) rfl ?_);refine Kd.R_lit (Kd.int .u32) _ 97 ?hg (N:=5) ?hd (xs:=([]:List Int)) (inner:=[]) (ok:=fun _=>True) (okp:=fun _=>True) ?hr ?hp (fun _ hk=>hk) trivial (Below.refl _ _) (Nat.le_refl _) (by simp) ?_;(case hd=>rfl);(case hg=>rfl);(case hr=>first|(go_simp;done)|(go_simp;rfl));(case hp=>exact (Reps.none _ _));intro v102 w3 ho4 hb hg_ hnew_;clear hg_ hnew_;have HO103:=aZ (Kd.R_lower ho4 bs);replace HB:=sB hb;clear hb ho4)|((with_reducible refine gate_builtin (b:=.append) (xs:=#[.tmp 5,.tmp 6]) rfl ?_);at_builtin;refine Kd.R_append_rows (Kd.int .u32) (w0:=w) w.heap.size rfl (.tmp 5) (.tmp 6) 101 97 (.int .u32 0) 4 rfl underlying101 I.out rfl (by decide) (by omega) v102 ([]:List Int) l0 _ _ _ (fun _=>True) (fun _=>False) rfl rfl ?aO ?aR (fun _ _ h=>h) (fun _ h=>h.elim) ?aF ?aB ?aS ?aL ?_;(case aR=>exact zC (Kd.C_below HR0.out HB.out));(case aB=>exact bw);(case aF=>exact (fun _ _=>trivial));(case aO=>exact (zR HO103));(case aS=>exact bs);(case aL=>have:=LMc2.out;simp;omega);intro v105 w5 ho hb hg hat;rw [List.nil_append] at ho;replace HB:=aZ (hb);have HO106:=aZ (ho);clear HO103;clear ho hb hg hat))
  go_ret
  exact ⟨_,rfl,zR HO106,bw⟩
end
def Yf.l0:Nat→List Int→Option (List Int)
 | 0,_=>none
 | k+1,x0=>if (x0.length:Int)>0 then (if 0≤(wrap64 ((x0.length:Int)-1)) then (if (wrap64 ((x0.length:Int)-1))<(x0.length:Int) then (if (rd x0 (wrap64 ((x0.length:Int)-1)))=0 then (if (wrap64 ((x0.length:Int)-1))≤(x0.length:Int) then (Yf.l0 k (x0.take ((wrap64 ((x0.length:Int)-1)):Int).toNat)) else (none)) else (some x0)) else (none)) else (none)) else (some x0)
def Yf.f (k:Nat) (l0:List Int):Option (List Int):=Yf.l0 k l0
theorem Yf.mono_l:∀ k,(∀ y0,LeO (Yf.l0 k y0) (Yf.l0 (k+1) y0))
 | 0=>fun _ r h=>by simp [Yf.l0] at h
 | k+1=>by
  have ih0:=Yf.mono_l k
  ·intro y0
   unfold Yf.l0
   exact zM
theorem Yf.mono:∀ a0 k,LeO (Yf.f k a0) (Yf.f (k+1) a0):=by
 intro a0 k
 have ih0:=Yf.mono_l k
 unfold Yf.f
 exact zM
theorem Yf.calls (k:Nat) (P0_:Nat→Prop) (A0:Option Addr) (c0:Nat) (l0:List Int) (r:List Int) (w:World) (hs0:Kd.V (Kd.int .u32) 97 w w.heap.size (fun k_=>P0_ k_) (.slice A0 l0.length c0) l0) (h:Yf.f k l0=some r) :
  Calls Tryz.prog 147 #[.slice A0 l0.length c0] w fun e w'=>∃ v0_:Value,e = .returned (v0_)∧Kd.V (Kd.int .u32) 97 w' w.heap.size (fun k_=>(P0_ k_∨w.heap.size≤k_)) v0_ r∧Below w.heap.size w w':=by
 have HO0:=aZ (show Kd.V (Kd.int .u32) 97 w w.heap.size (fun k_=>(P0_ k_∨w.heap.size≤k_)) (.slice A0 l0.length c0) l0 from Kd.V_mono hs0 (fun k_ hk=>.inl hk))
 have HB:=aZ (Below.refl w.heap.size w)
 have H:=h
 unfold Yf.f at H
 clear h
 have H':=aZ H
 clear H
 go_enter func147,ntmps147
 go_wp2
 go_loopg [0] k (fun kq v0 w'=>∃ (x0_1:List Int),Aside0 (Yf.l0 kq x0_1=some r)∧Aside0 (kq≤k)∧Aside0 (Kd.V (Kd.int .u32) 97 w' w.heap.size (fun k_=>(P0_ k_∨w.heap.size≤k_)) v0 x0_1)∧Aside0 (Below w.heap.size w w'))
 case atStart=>exact ⟨(l0),H',⟨Nat.le_refl _⟩,⟨zV HO0⟩,⟨bw⟩⟩
 case round =>
  clear H'
  try clear c1
  obtain ⟨x0_1,HA,HK1,HO_0,HB⟩:=hrel
  cases gk with
  | zero=>exact absurd HA.out (by simp [Yf.l0])
  | succ k1 =>
   have H:=HA.out
   clear HA
   simp only [Yf.l0] at H
   by_cases c2:(x0_1.length:Int)>0
   case neg=>
    rw [if_neg c2] at H
    have c2b0:=decide_eq_false c2
    have c2b1:decide (0<x0_1.length)=false:=decide_eq_false (by omega)
    clear c2
    obtain rfl:=Option.some.inj H
    obtain ⟨Ao12,co12,rfl⟩:=Kd.V_slice HO_0.out
    go_wp2
    go_ret
    exact ⟨_,ze,zV HO_0,bw⟩
   rw [if_pos c2] at H
   have c2b0:=decide_eq_true c2
   have c2b1:decide (0<x0_1.length)=true:=decide_eq_true (by omega)
   clear c2
   obtain ⟨ji3,hji3⟩:∃ j_:Int,(wrap64 ((x0_1.length:Int)-1))=j_:=⟨_,rfl⟩
   (first|rw [hji3] at H|simp only [hji3] at H)
   have hji3w:(IntKind.i64.wrap ((x0_1.length:Int)-1))=ji3:=(i64_w _).trans hji3
   by_cases c4:0≤(ji3)
   case neg=>
    rw [if_neg c4] at H
    cases H
   rw [if_pos c4] at H
   have c4b0:=decide_eq_true c4
   clear c4
   by_cases c5:(ji3)<(x0_1.length:Int)
   case neg=>
    rw [if_neg c5] at H
    cases H
   rw [if_pos c5] at H
   have c5b0:=decide_eq_true c5
   clear c5
   by_cases c6:(rd x0_1 (ji3))=0
   case neg=>
    rw [if_neg c6] at H
    obtain ⟨c6b0,c6b1⟩:=zX c6
    obtain rfl:=Option.some.inj H
    obtain ⟨Ao11,co11,rfl⟩:=Kd.V_slice HO_0.out
    have p120:0≤((ji3):Int):=zd
    have q120:(ji3)<(x0_1.length:Int):=zd
    obtain ⟨ad120,e120,hx120_0⟩:=Kd.at_int (Kd.V_reads' HO_0.out).2.2 (ji3) p120 q120
    cases e120
    replace p120:=eq_true p120
    replace q120:=eq_true q120
    go_wp2
    go_ret
    exact ⟨_,by first|rfl|(simp [errW_none,errW_some] <;> rfl)|(simp only [← hji3];first|rfl|(simp [errW_none,errW_some] <;> rfl))|(simp [*,errW_none,errW_some] <;> rfl),zV HO_0,bw⟩
   rw [if_pos c6] at H
   obtain ⟨c6b0,c6b1⟩:=zY c6
   clear c6
   have c7b0:=eq_true (zd:0≤(ji3))
   by_cases c8:(ji3)≤(x0_1.length:Int)
   case neg=>
    rw [if_neg c8] at H
    cases H
   rw [if_pos c8] at H
   have c8b0:=eq_true c8
   have c8b1:=decide_eq_true c8
   clear c8
   obtain ⟨y121,hy121⟩:∃ y_:List Int,y_=(x0_1.take ((ji3):Int).toNat):=⟨_,rfl⟩
   replace H:(Yf.l0 k1 y121)=some r:=zy hy121 H
   have Ny121:=aZ hy121
   clear hy121
   have H':=aZ H
   clear H
   obtain ⟨Ao9,co9,rfl⟩:=Kd.V_slice HO_0.out
   have p120:0≤((ji3):Int):=zd
   have q120:(ji3)<(x0_1.length:Int):=zd
   obtain ⟨ad120,e120,hx120_0⟩:=Kd.at_int (Kd.V_reads' HO_0.out).2.2 (ji3) p120 q120
   cases e120
   replace p120:=eq_true p120
   replace q120:=eq_true q120
   have q10:((ji3):Int)≤((x0_1.length:Int):Int):=zd
   obtain ⟨i010,hi010,_,hsz10,_⟩:=info_parts info97
   have hroom10:x0_1.length≤co9:=(Kd.V_reads' HO_0.out).2.1
   have hC10:Kd.F (Kd.int .u32) _ _ (some ad120) x0_1.length x0_1:=(Kd.V_at (base:=w.heap.size) HO_0.out).2.2
   have hcut10:=cut_to (P:=Tryz.prog) 101 97 .i64 underlying101 hi010 (some ad120) x0_1.length co9 (ji3) (zd) q10 hroom10
   have hr10:=Kd.F_take (m:=((ji3):Int).toNat) hC10 (by omega)
   have hy10:y121.length=((ji3):Int).toNat:=(by rw [Ny121.out,List.length_take];omega)
   rw [← Ny121.out] at hr10
   rw [← hy10] at hcut10
   have HO125:=aZ (show Kd.V (Kd.int .u32) 97 _ w.heap.size _ (.slice (some ad120) y121.length co9) y121 from Kd.V_mk (by omega) hr10)
   have HC125:=aZ (show y121.length≤co9 from by omega)
   clear hr10 hC10 hroom10 hi010 hsz10
   have KY10:=aZ hy10
   clear hy10
   replace q10:=eq_true q10
   go_wp2
   go_roundg k1
   case measure=>have:=HK1.out;omega
   case rel=>exact ⟨(y121),H',⟨by have:=HK1.out;omega⟩,⟨zV HO125⟩,⟨bw⟩⟩
def YO.f (a0:Int) (a1:Int):Option (Int):=if a0<a1 then (some (-1)) else (if a0 > a1 then (some 1) else (some 0))
theorem YO.calls (a0:Int) (a1:Int) (r:Int) (w:World) (h:YO.f a0 a1=some r) :
  Calls Tryz.prog 183 #[.int .i64 a0,.int .i64 a1] w fun e w'=>e = .returned (.int .i64 r)∧Drawn0 w w':=by
 have H:=h
 unfold YO.f at H
 clear h
 by_cases c3:a0<a1
 case neg=>
  rw [if_neg c3] at H
  have c3b0:=decide_eq_false c3
  clear c3
  by_cases c4:a0 > a1
  case neg=>
   rw [if_neg c4] at H
   have c4b0:=decide_eq_false c4
   clear c4
   obtain rfl:=Option.some.inj H
   go_enter func183,ntmps183
   go_wp2
   go_ret
   exact ⟨zs,by repeat (first|exact Drawn0.refl _|apply Drawn0.step)⟩
  rw [if_pos c4] at H
  have c4b0:=decide_eq_true c4
  clear c4
  obtain rfl:=Option.some.inj H
  go_enter func183,ntmps183
  go_wp2
  go_ret
  exact ⟨zs,by repeat (first|exact Drawn0.refl _|apply Drawn0.step)⟩
 rw [if_pos c3] at H
 have c3b0:=decide_eq_true c3
 clear c3
 obtain rfl:=Option.some.inj H
 go_enter func183,ntmps183
 go_wp2
 go_ret
 exact ⟨zs,by repeat (first|exact Drawn0.refl _|apply Drawn0.step)⟩
def Yw.l0:Nat→List Int→List Int→Int→Option (Int)
 | 0,_,_,_=>none
 | k+1,x0,x1,x5=>if x5≥0 then (if 0≤x5 then (if x5<(x0.length:Int) then (if x5<(x1.length:Int) then (if (rd x0 x5)=(rd x1 x5) then (Yw.l0 k x0 x1 (wrap64 (x5-1))) else ((YO.f (wrap64 (rd x0 x5)) (wrap64 (rd x1 x5))).bind fun t131=>(some t131))) else (none)) else (none)) else (none)) else (some 0)
def Yw.f (k:Nat) (l0:List Int) (l1:List Int):Option (Int):=if (l0.length:Int)=(l1.length:Int) then (Yw.l0 k l0 l1 (wrap64 ((l0.length:Int)-1))) else ((YO.f (l0.length:Int) (l1.length:Int)).bind fun t126=>(some t126))
theorem Yw.mono_l:∀ k,(∀ y0 y1 y2,LeO (Yw.l0 k y0 y1 y2) (Yw.l0 (k+1) y0 y1 y2))
 | 0=>fun _ _ _ r h=>by simp [Yw.l0] at h
 | k+1=>by
  have ih0:=Yw.mono_l k
  ·intro y0 y1 y2
   unfold Yw.l0
   exact zM
theorem Yw.mono:∀ a0 a1 k,LeO (Yw.f k a0 a1) (Yw.f (k+1) a0 a1):=by
 intro a0 a1 k
 have ih0:=Yw.mono_l k
 unfold Yw.f
 exact zM
theorem Yw.calls (k:Nat) (A0:Option Addr) (c0:Nat) (l0:List Int) (A1:Option Addr) (c1:Nat) (l1:List Int) (r:Int) (w:World) (hr0:Kd.C (Kd.int .u32) w A0 l0.length l0) (hc0:l0.length≤c0) (hr1:Kd.C (Kd.int .u32) w A1 l1.length l1) (hc1:l1.length≤c1) (h:Yw.f k l0 l1=some r) :
  Calls Tryz.prog 153 #[.slice A0 l0.length c0,.slice A1 l1.length c1] w fun e w'=>e = .returned (.int .i64 r)∧Drawn0 w w':=by
 have HR0:=aZ hr0
 have HC0:=aZ hc0
 clear hr0 hc0
 have HR1:=aZ hr1
 have HC1:=aZ hc1
 clear hr1 hc1
 have H:=h
 unfold Yw.f at H
 clear h
 by_cases c3:(l0.length:Int)=(l1.length:Int)
 case neg=>
  rw [if_neg c3] at H
  obtain ⟨c3b0,c3b1⟩:=zX c3
  have c3b2:(l0.length==l1.length)=false:=by first|simpa using c3|(simp at c3 ⊢;omega)
  obtain ⟨t126,A10,H⟩:=zB H
  obtain rfl:=Option.some.inj H
  go_enter func153,ntmps153
  go_wp2_with (first|(go_at_call 183;(with_reducible refine (YO.calls (l0.length:Int) (l1.length:Int) t126 _ A10.out).mono ?_);rintro e w' ⟨rfl,⟨nd,rfl⟩⟩;(try first|exact ⟨rfl,_,World.drewN_drewN _ _ _⟩|exact ⟨rfl,_,Eq.trans (World.drewN_drewN _ _ _) (congrArg (World.drewN _) (Nat.add_assoc _ _ _))⟩)))
  repeat (go_quiet (first|(go_at_call 183;(with_reducible refine (YO.calls (l0.length:Int) (l1.length:Int) t126 _ A10.out).mono ?_);rintro e w' ⟨rfl,⟨nd,rfl⟩⟩;(try first|exact ⟨rfl,_,World.drewN_drewN _ _ _⟩|exact ⟨rfl,_,Eq.trans (World.drewN_drewN _ _ _) (congrArg (World.drewN _) (Nat.add_assoc _ _ _))⟩)));try go_wp2_with (first|(go_at_call 183;(with_reducible refine (YO.calls (l0.length:Int) (l1.length:Int) t126 _ A10.out).mono ?_);rintro e w' ⟨rfl,⟨nd,rfl⟩⟩;(try first|exact ⟨rfl,_,World.drewN_drewN _ _ _⟩|exact ⟨rfl,_,Eq.trans (World.drewN_drewN _ _ _) (congrArg (World.drewN _) (Nat.add_assoc _ _ _))⟩))))
  go_ret
  exact ⟨zs,by repeat (first|exact Drawn0.refl _|apply Drawn0.step)⟩
 rw [if_pos c3] at H
 obtain ⟨c3b0,c3b1⟩:=zY c3
 have c3b2:(l0.length==l1.length)=true:=by first|simpa using c3|(simp at c3 ⊢;omega)
 clear c3
 have H':=aZ H
 clear H
 go_enter func153,ntmps153
 go_wp2
 repeat (go_quiet (fail);try go_wp2)
 go_loopg [5] k (fun kq v5 w'=>∃ (x5_1:Int),v5 = .int .i64 x5_1∧Aside0 (Yw.l0 kq l0 l1 x5_1=some r)∧Aside0 (kq≤k)∧Drawn0 w w')
 case atStart=>exact ⟨(wrap64 ((l0.length:Int)-1)),zs,H',⟨Nat.le_refl _⟩,by repeat (first|exact Drawn0.refl _|apply Drawn0.step)⟩
 case round =>
  clear H'
  try clear c1
  try clear c3
  try clear c3b0
  try clear c3b1
  try clear c3b2
  obtain ⟨x5_1,rfl,HA,HK1,⟨m1,rfl⟩⟩:=hrel
  cases gk with
  | zero=>exact absurd HA.out (by simp [Yw.l0])
  | succ k1 =>
   have H:=HA.out
   clear HA
   simp only [Yw.l0] at H
   by_cases c4:x5_1≥0
   case neg=>
    rw [if_neg c4] at H
    have c4b0:=decide_eq_false c4
    clear c4
    obtain rfl:=Option.some.inj H
    go_wp2
    repeat (go_quiet (fail);try go_wp2)
    go_ret
    exact ⟨zs,by repeat (first|exact Drawn0.refl _|apply Drawn0.step)⟩
   rw [if_pos c4] at H
   have c4b0:=decide_eq_true c4
   clear c4
   by_cases c5:0≤x5_1
   case neg=>
    rw [if_neg c5] at H
    cases H
   rw [if_pos c5] at H
   have c5b0:=decide_eq_true c5
   clear c5
   by_cases c6:x5_1<(l0.length:Int)
   case neg=>
    rw [if_neg c6] at H
    cases H
   rw [if_pos c6] at H
   have c6b0:=decide_eq_true c6
   clear c6
   by_cases c7:x5_1<(l1.length:Int)
   case neg=>
    rw [if_neg c7] at H
    cases H
   rw [if_pos c7] at H
   have c7b0:=decide_eq_true c7
   clear c7
   by_cases c8:(rd l0 x5_1)=(rd l1 x5_1)
   case neg=>
    rw [if_neg c8] at H
    obtain ⟨c8b0,c8b1⟩:=zX c8
    obtain ⟨t131,A9,H⟩:=zB H
    obtain rfl:=Option.some.inj H
    have p127:0≤(x5_1:Int):=zd
    have q127:x5_1<(l0.length:Int):=zd
    obtain ⟨ad127,e127,hx127_0⟩:=Kd.at_int HR0.out x5_1 p127 q127
    cases e127
    replace p127:=eq_true p127
    replace q127:=eq_true q127
    have p128:0≤(x5_1:Int):=zd
    have q128:x5_1<(l1.length:Int):=zd
    obtain ⟨ad128,e128,hx128_0⟩:=Kd.at_int HR1.out x5_1 p128 q128
    cases e128
    replace p128:=eq_true p128
    replace q128:=eq_true q128
    have p129:0≤(x5_1:Int):=zd
    have q129:x5_1<(l0.length:Int):=zd
    obtain ⟨ad129,e129,hx129_0⟩:=Kd.at_int HR0.out x5_1 p129 q129
    obtain rfl:ad127=ad129:=(by injection e129)
    replace p129:=eq_true p129
    replace q129:=eq_true q129
    have p130:0≤(x5_1:Int):=zd
    have q130:x5_1<(l1.length:Int):=zd
    obtain ⟨ad130,e130,hx130_0⟩:=Kd.at_int HR1.out x5_1 p130 q130
    obtain rfl:ad128=ad130:=(by injection e130)
    replace p130:=eq_true p130
    replace q130:=eq_true q130
    go_wp2_with (first|(go_at_call 183;(with_reducible refine (YO.calls (wrap64 (rd l0 x5_1)) (wrap64 (rd l1 x5_1)) t131 _ A9.out).mono ?_);rintro e w' ⟨rfl,⟨nd,rfl⟩⟩;(try first|exact ⟨rfl,_,World.drewN_drewN _ _ _⟩|exact ⟨rfl,_,Eq.trans (World.drewN_drewN _ _ _) (congrArg (World.drewN _) (Nat.add_assoc _ _ _))⟩)))
    repeat (go_quiet (first|(go_at_call 183;(with_reducible refine (YO.calls (wrap64 (rd l0 x5_1)) (wrap64 (rd l1 x5_1)) t131 _ A9.out).mono ?_);rintro e w' ⟨rfl,⟨nd,rfl⟩⟩;(try first|exact ⟨rfl,_,World.drewN_drewN _ _ _⟩|exact ⟨rfl,_,Eq.trans (World.drewN_drewN _ _ _) (congrArg (World.drewN _) (Nat.add_assoc _ _ _))⟩)));try go_wp2_with (first|(go_at_call 183;(with_reducible refine (YO.calls (wrap64 (rd l0 x5_1)) (wrap64 (rd l1 x5_1)) t131 _ A9.out).mono ?_);rintro e w' ⟨rfl,⟨nd,rfl⟩⟩;(try first|exact ⟨rfl,_,World.drewN_drewN _ _ _⟩|exact ⟨rfl,_,Eq.trans (World.drewN_drewN _ _ _) (congrArg (World.drewN _) (Nat.add_assoc _ _ _))⟩))))
    go_ret
    exact ⟨zs,by repeat (first|exact Drawn0.refl _|apply Drawn0.step)⟩
   rw [if_pos c8] at H
   obtain ⟨c8b0,c8b1⟩:=zY c8
   clear c8
   have H':=aZ H
   clear H
   have p127:0≤(x5_1:Int):=zd
   have q127:x5_1<(l0.length:Int):=zd
   obtain ⟨ad127,e127,hx127_0⟩:=Kd.at_int HR0.out x5_1 p127 q127
   cases e127
   replace p127:=eq_true p127
   replace q127:=eq_true q127
   have p128:0≤(x5_1:Int):=zd
   have q128:x5_1<(l1.length:Int):=zd
   obtain ⟨ad128,e128,hx128_0⟩:=Kd.at_int HR1.out x5_1 p128 q128
   cases e128
   replace p128:=eq_true p128
   replace q128:=eq_true q128
   go_wp2
   repeat (go_quiet (fail);try go_wp2)
   go_roundg k1
   case measure=>have:=HK1.out;omega
   case rel=>exact ⟨(wrap64 (x5_1-1)),zs,H',⟨by have:=HK1.out;omega⟩,by repeat (first|exact Drawn0.refl _|apply Drawn0.step)⟩
def Yj.l0:Nat→List Int→Int→List Int→Int→Int→Option (List Int×Int)
 | 0,_,_,_,_,_=>none
 | k+1,x0,x1,x6,x7,x8=>if x8≥0 then (if 0≤x8 then (if x8<(x0.length:Int) then (if x1=0 then (none) else (if x8<(x6.length:Int) then (Yj.l0 k x0 x1 (x6.set (x8:Int).toNat ((IntKind.u64.wrap (Int.tdiv (IntKind.u64.wrap ((IntKind.u64.wrap (x7*1000000000))+(IntKind.u64.wrap (rd x0 x8)))) x1))%4294967296)) (Int.tmod (IntKind.u64.wrap ((IntKind.u64.wrap (x7*1000000000))+(IntKind.u64.wrap (rd x0 x8)))) x1) (wrap64 (x8-1))) else (none))) else (none)) else (none)) else ((Yf.f k x6).bind fun t137=>(some (t137,x7)))
def Yj.f (k:Nat) (l0:List Int) (a1:Int):Option (List Int×Int):=if 0≤(l0.length:Int) then (if ((l0.length:Int):Int).toNat≤70368744177664 then (Yj.l0 k l0 a1 (List.replicate ((l0.length:Int):Int).toNat 0) 0 (wrap64 ((l0.length:Int)-1))) else (none)) else (none)
theorem Yj.mono_l:∀ k,(∀ y0 y1 y2 y3 y4,LeO (Yj.l0 k y0 y1 y2 y3 y4) (Yj.l0 (k+1) y0 y1 y2 y3 y4))
 | 0=>fun _ _ _ _ _ r h=>by simp [Yj.l0] at h
 | k+1=>by
  have ih0:=Yj.mono_l k
  ·intro y0 y1 y2 y3 y4
   unfold Yj.l0
   have m0:=Yf.mono
   exact zM
theorem Yj.mono:∀ a0 a1 k,LeO (Yj.f k a0 a1) (Yj.f (k+1) a0 a1):=by
 intro a0 a1 k
 have ih0:=Yj.mono_l k
 unfold Yj.f
 have m0:=Yf.mono
 exact zM
def Yj.T7:Bool×List (List Nat×List Nat):=(true,[([],[]),([],[]),([],[]),([],[]),([2,3],[2,3]),([4],[4]),([],[]),([],[]),([6,7],[6,7]),([0,1,0,1,2,3,4,5],[0,1]),([9,5,0,1,2,3,4,5],[5,9]),([8,10,0,1,2,3,4,5,6,7,8,9,10],[8])])
def Yj.B7:List Nat:=[0,0,0,0,12,28,0,0,192,63,575,2047]
theorem Yj.tab7:rtab .any (opsOf Tryz.f178 7)=Yj.T7:=by kernel_rfl
theorem Yj.bits7:waitsOk Yj.T7.2 Yj.B7=true:=by kernel_rfl
theorem Yj.calls (k:Nat) (A0:Option Addr) (c0:Nat) (l0:List Int) (a1:Int) (r1:List Int) (r2:Int) (w:World) (hr0:Kd.C (Kd.int .u32) w A0 l0.length l0) (hc0:l0.length≤c0) (h:Yj.f k l0 a1=some (r1,r2)) :
  Calls Tryz.prog 178 #[.slice A0 l0.length c0,.int .u64 a1] w fun e w'=>∃ v0_:Value,e = .returned (.tuple #[v0_,.int .u64 r2])∧Kd.V (Kd.int .u32) 97 w' w.heap.size (fun k_=>(w.heap.size≤k_)) v0_ r1∧Below w.heap.size w w':=by
 have HR0:=aZ hr0
 have HC0:=aZ hc0
 clear hr0 hc0
 have HB:=aZ (Below.refl w.heap.size w)
 have H:=h
 unfold Yj.f at H
 clear h
 by_cases c3:0≤(l0.length:Int)
 case neg=>
  rw [if_neg c3] at H
  cases H
 rw [if_pos c3] at H
 have c3b0:=eq_true c3
 have c3b1:=decide_eq_true c3
 clear c3
 by_cases c4:((l0.length:Int):Int).toNat≤70368744177664
 case neg=>
  rw [if_neg c4] at H
  cases H
 rw [if_pos c4] at H
 have c4b0:=eq_true c4
 have c4b1:=decide_eq_true c4
 clear c4
 obtain ⟨y132,hy132⟩:∃ y_:List Int,y_=(List.replicate ((l0.length:Int):Int).toNat 0):=⟨_,rfl⟩
 replace H:(Yj.l0 k l0 a1 y132 0 (wrap64 ((l0.length:Int)-1)))=some (r1,r2):=zy hy132 H
 have Ny132:=aZ hy132
 clear hy132
 have H':=aZ H
 clear H
 go_enter func178,ntmps178
 go_wp2_with (first|((with_reducible refine gate_dst (N:=12) rfl ?_);refine Kd.R_make (Kd.int .u32) _ 97 rfl (N:=12) rfl 101 _ _ rfl (l0.length:Int) rfl rfl underlying101 (.int .u32 0) 4 info97 rfl (by decide) (by omega) 0 (ok:=fun _=>True) (okp:=fun _=>True) rfl (fun _ hk=>hk) trivial (zd) (Nat.le_trans (Nat.mul_le_mul_right _ (zd:(l0.length:Int).toNat≤70368744177664)) (by omega)) (Below.refl _ _) (Nat.le_refl _) ?_;intro v133 w5 ho6 hb hg_ hnew_;clear hg_ hnew_;(first|rw [← Ny132.out] at ho6|(simp only [Int.reduceToNat] at ho6;rw [← Ny132.out] at ho6));have HO134:=aZ (Kd.R_lower (Kd.R_newM (M:=fun k_=>(w.heap.size≤k_)) ho6 bs (fun k_ h_=>h_)) bs);replace HB:=sB hb;clear hb ho6))
 go_loopg [7,8] k (fun kq v7 v8 w'=>∃ (x6_1:List Int) (x7_1:Int) (x8_1:Int),v7 = .int .u64 x7_1∧v8 = .int .i64 x8_1∧Aside0 (Yj.l0 kq l0 a1 x6_1 x7_1 x8_1=some (r1,r2))∧Aside0 (kq≤k)∧Aside0 (Kd.R (Kd.int .u32) 97 w' w.heap.size (fun k_=>(w.heap.size≤k_)) v133 x6_1)∧Aside0 (Below w.heap.size w w'))
 case atStart=>exact ⟨(y132),(0),(wrap64 ((l0.length:Int)-1)),zs,zs,H',⟨Nat.le_refl _⟩,⟨by (with_reducible repeat (first|apply Kd.R_alloc|apply Kd.R_drewN|apply Kd.R_drew));exact Kd.R_mono HO134.out (fun _ hk=>hk.1)⟩,⟨bw⟩⟩
 case round =>
  clear H'
  try clear c1
  try clear c3
  try clear c3b0
  try clear c3b1
  try clear c4
  try clear c4b0
  try clear c4b1
  obtain ⟨x6_1,x7_1,x8_1,rfl,rfl,HA,HK1,HO_6,HB⟩:=hrel
  cases gk with
  | zero=>exact absurd HA.out (by simp [Yj.l0])
  | succ k1 =>
   have H:=HA.out
   clear HA
   simp only [Yj.l0] at H
   by_cases c7:x8_1≥0
   case neg=>
    rw [if_neg c7] at H
    have c7b0:=decide_eq_false c7
    clear c7
    obtain ⟨t137,A15,H⟩:=zB H
    simp only [Option.some.injEq,Prod.mk.injEq] at H
    obtain ⟨rfl,rfl⟩:=H
    obtain ⟨Ao16,co16,rfl⟩:=Kd.R_slice HO_6.out
    go_wp2_with (first|(refine zg (some 39) func147 #[.slice Ao16 x6_1.length co16] ?_;(with_reducible refine (Yf.calls k1 (fun k_=>some k_=(.slice Ao16 x6_1.length co16:Value).ownBlock) _ _ x6_1 t137 _ ?side1 A15.out).mono ?_);(case side1=>exact Kd.R_V (Kd.R_tight rfl (HO_6.out)));rintro e w17 ⟨v138,rfl,ho0,hb⟩;refine ⟨_,rfl,?_⟩;have HO139:=yL (fun k_=>(w.heap.size≤k_)) ho0 (fun k_ hk_=>Or.elim hk_ (fun hs_=>((HO_6.out).1 k_ hs_.symm)) (fun hn_=>(Nat.le_trans bs hn_)));replace HO_6:=yR HO_6 hb;replace HB:=sB hb;clear hb ho0))
    go_ret2
    exact ⟨_,ze,zV HO139,bw⟩
   rw [if_pos c7] at H
   have c7b0:=decide_eq_true c7
   clear c7
   by_cases c8:0≤x8_1
   case neg=>
    rw [if_neg c8] at H
    cases H
   rw [if_pos c8] at H
   have c8b0:=decide_eq_true c8
   clear c8
   by_cases c9:x8_1<(l0.length:Int)
   case neg=>
    rw [if_neg c9] at H
    cases H
   rw [if_pos c9] at H
   have c9b0:=decide_eq_true c9
   clear c9
   by_cases c10:a1=0
   case neg=>
    rw [if_neg c10] at H
    obtain ⟨c10b0,c10b1⟩:=zX c10
    by_cases c11:x8_1<(x6_1.length:Int)
    case neg=>
     rw [if_neg c11] at H
     cases H
    rw [if_pos c11] at H
    have c11b0:=decide_eq_true c11
    clear c11
    obtain ⟨y136,hy136⟩:∃ y_:List Int,y_=(x6_1.set (x8_1:Int).toNat ((IntKind.u64.wrap (Int.tdiv (IntKind.u64.wrap ((IntKind.u64.wrap (x7_1*1000000000))+(IntKind.u64.wrap (rd l0 x8_1)))) a1))%4294967296)):=⟨_,rfl⟩
    replace H:(Yj.l0 k1 l0 a1 y136 (Int.tmod (IntKind.u64.wrap ((IntKind.u64.wrap (x7_1*1000000000))+(IntKind.u64.wrap (rd l0 x8_1)))) a1) (wrap64 (x8_1-1)))=some (r1,r2):=zy hy136 H
    have Ny136:=aZ hy136
    clear hy136
    have H':=aZ H
    clear H
    have p135:0≤(x8_1:Int):=zd
    have q135:x8_1<(l0.length:Int):=zd
    obtain ⟨ad135,e135,hx135_0⟩:=Kd.at_int HR0.out x8_1 p135 q135
    cases e135
    replace hx135_0:=(HB.out.cell (World.block_lt_of_cell? w _ hx135_0)).trans hx135_0
    replace p135:=eq_true p135
    replace q135:=eq_true q135
    try go_wp2
    replace HO_6:=aZ (Kd.R_drew HO_6.out)
    replace HB:=aZ (below_drew1 HB.out)
    have p12:0≤(x8_1:Int):=zd
    have q12:(x8_1:Int)<((x6_1.length:Int):Int):=zd
    obtain ⟨go12,co12,eo12,gb12,gl12,cl12,HG12⟩:=Kd.R_form HO_6.out (by omega)
    (first|cases eo12|(injection eo12 with ea_ en_ ec_;(first|subst ea_|(injection ea_ with ea_;subst ea_));subst ec_;clear en_))
    have GB12:=aZ gb12
    have GG12:=aZ HG12
    clear gb12 gl12 HG12
    obtain ⟨hx12_0,hf12_0⟩:=Kd.R_celln 0 HO_6.out (x8_1:Int) p12 q12
    replace p12:=eq_true p12
    replace q12:=eq_true q12
    have HP14:=Kd.R_putn HO_6.out (x8_1:Int) ((IntKind.u64.wrap (Int.tdiv (IntKind.u64.wrap ((IntKind.u64.wrap (x7_1*1000000000))+(IntKind.u64.wrap (rd l0 x8_1)))) a1))%4294967296)
    rw [← Ny136.out] at HP14
    have HQ14:=aZ HP14
    clear HP14
    refine start_ (n:=12) (S:=fun w'=>True) (ds:=[10]) #[false,false,false,false,false,false,false,false,false,false,false,false] (by kernel_rfl) rfl rfl trivial (fun hHeld=>?_);refine with_tabW Yj.tab7 Yj.bits7 (fun HT_ HW_=>?_)
    generalize wr.drew=w13 at HO_6 HB GG12 HQ14 hf12_0 hx12_0 hHeld ⊢
    refine pu 0 (some 28) HT_ ?_
    refine pu 1 (some 29) HT_ ?_
    refine pu 2 (some 30) HT_ ?_
    refine pu 3 (some 31) HT_ ?_
    refine pu 4 (some 32) HT_ ?_
    refine pu 5 (some 33) HT_ ?_
    refine pu 6 (some 34) HT_ ?_
    refine pu 7 (some 35) HT_ ?_
    refine pu 8 (some 36) HT_ ?_
    refine pu 9 (some 37) HT_ ?_
    refine last_ (i:=10) (N:=none) #[true,true,true,true,true,true,true,true,true,true,true,false] rfl rfl (one_of HT_.out (by kernel_rfl)) (by decide) (fun K hK=>?_)
    refine skip_ (w1:=?_) (by rfl) rfl ?_ ?_
    rotate_left
    ·go_simp
     rfl
    refine hK.out _ _ ?_
    clear hK K
    refine pu 11 (some 7) HT_ ?_
    refine done_ (done_of HT_.out (by kernel_rfl)) ?_
    try go_wp2
    go_roundg k1
    case measure=>have:=HK1.out;omega
    case rel=>exact ⟨(y136),(Int.tmod (IntKind.u64.wrap ((IntKind.u64.wrap (x7_1*1000000000))+(IntKind.u64.wrap (rd l0 x8_1)))) a1),(wrap64 (x8_1-1)),zs,zs,H',⟨by have:=HK1.out;omega⟩,⟨zR HQ14⟩,⟨bw⟩⟩
   rw [if_pos c10] at H
   cases H
def Yk.l0:Nat→List Int→Int→List Int→Int→Int→Int→Option (List Int)
 | 0,_,_,_,_,_,_=>none
 | k+1,x0,x1,x7,x8,x14,x15=>if x15<x14 then (if x15<(x0.length:Int) then (if 0≤x15 then (if x15<(x7.length:Int) then (Yk.l0 k x0 x1 (x7.set (x15:Int).toNat ((Int.tmod (IntKind.u64.wrap (x8+(IntKind.u64.wrap ((IntKind.u64.wrap (rd x0 x15))*x1)))) 1000000000)%4294967296)) (IntKind.u64.wrap (Int.tdiv (IntKind.u64.wrap (x8+(IntKind.u64.wrap ((IntKind.u64.wrap (rd x0 x15))*x1)))) 1000000000)) x14 (wrap64 (x15+1))) else (none)) else (none)) else (if 0≤x15 then (if x15<(x7.length:Int) then (Yk.l0 k x0 x1 (x7.set (x15:Int).toNat ((Int.tmod x8 1000000000)%4294967296)) (IntKind.u64.wrap (Int.tdiv x8 1000000000)) x14 (wrap64 (x15+1))) else (none)) else (none))) else (some x7)
def Yk.f (k:Nat) (l0:List Int) (a1:Int) (a2:Int):Option (List Int):=if 0≤a2 then (if (a2:Int).toNat≤70368744177664 then ((some (List.replicate (a2:Int).toNat 0:List Int)).bind fun y140=>(Yk.l0 k l0 a1 y140 0 (y140.length:Int) 0)) else (none)) else (none)
theorem Yk.mono_l:∀ k,(∀ y0 y1 y2 y3 y4 y5,LeO (Yk.l0 k y0 y1 y2 y3 y4 y5) (Yk.l0 (k+1) y0 y1 y2 y3 y4 y5))
 | 0=>fun _ _ _ _ _ _ r h=>by simp [Yk.l0] at h
 | k+1=>by
  have ih0:=Yk.mono_l k
  ·intro y0 y1 y2 y3 y4 y5
   unfold Yk.l0
   exact zM
theorem Yk.mono:∀ a0 a1 a2 k,LeO (Yk.f k a0 a1 a2) (Yk.f (k+1) a0 a1 a2):=by
 intro a0 a1 a2 k
 have ih0:=Yk.mono_l k
 unfold Yk.f
 exact zM
theorem Yk.calls (k:Nat) (A0:Option Addr) (c0:Nat) (l0:List Int) (a1:Int) (a2:Int) (r:List Int) (w:World) (hr0:Kd.C (Kd.int .u32) w A0 l0.length l0) (hc0:l0.length≤c0) (h:Yk.f k l0 a1 a2=some r) :
  Calls Tryz.prog 179 #[.slice A0 l0.length c0,.int .u64 a1,.int .i64 a2] w fun e w'=>∃ v0_:Value,e = .returned (v0_)∧Kd.R (Kd.int .u32) 97 w' w.heap.size (fun _=>True) v0_ r∧Below w.heap.size w w':=by
 have HR0:=aZ hr0
 have HC0:=aZ hc0
 clear hr0 hc0
 have HB:=aZ (Below.refl w.heap.size w)
 have H:=h
 unfold Yk.f at H
 clear h
 by_cases c4:0≤a2
 case neg=>
  rw [if_neg c4] at H
  cases H
 rw [if_pos c4] at H
 have c4b0:=eq_true c4
 have c4b1:=decide_eq_true c4
 clear c4
 by_cases c5:(a2:Int).toNat≤70368744177664
 case neg=>
  rw [if_neg c5] at H
  cases H
 rw [if_pos c5] at H
 have c5b0:=eq_true c5
 have c5b1:=decide_eq_true c5
 clear c5
 obtain ⟨y140,hy140⟩:∃ y_:List Int,y_=(List.replicate (a2:Int).toNat 0):=⟨_,rfl⟩
 replace H:(Yk.l0 k l0 a1 y140 0 (y140.length:Int) 0)=some r:=zy hy140 H
 have Ny140:=aZ hy140
 clear hy140
 have H':=aZ H
 clear H
 go_enter func179,ntmps179
 go_wp2_with (first|((with_reducible refine gate_dst (N:=12) rfl ?_);refine Kd.R_make (Kd.int .u32) _ 97 rfl (N:=12) rfl 101 _ _ rfl a2 rfl rfl underlying101 (.int .u32 0) 4 info97 rfl (by decide) (by omega) 0 (ok:=fun _=>True) (okp:=fun _=>True) rfl (fun _ hk=>hk) trivial (zd) (Nat.le_trans (Nat.mul_le_mul_right _ (zd:a2.toNat≤70368744177664)) (by omega)) (Below.refl _ _) (Nat.le_refl _) ?_;intro v141 w6 ho7 hb hg_ hnew_;clear hg_ hnew_;(first|rw [← Ny140.out] at ho7|(simp only [Int.reduceToNat] at ho7;rw [← Ny140.out] at ho7));have HO142:=aZ (Kd.R_lower ho7 bs);replace HB:=sB hb;clear hb ho7;obtain ⟨Ao8,co8,rfl⟩:=Kd.R_slice HO142.out))
 go_loopg [8,15] k (fun kq v8 v15 w'=>∃ (x7_1:List Int) (x8_1:Int) (x15_1:Int),v8 = .int .u64 x8_1∧v15 = .int .i64 x15_1∧Aside0 (Yk.l0 kq l0 a1 x7_1 x8_1 (y140.length:Int) x15_1=some r)∧Aside0 (kq≤k)∧Aside0 (Kd.R (Kd.int .u32) 97 w' w.heap.size (fun _=>True) (.slice Ao8 y140.length co8) x7_1)∧Aside0 (Below w.heap.size w w'))
 case atStart=>exact ⟨(y140),(0),(0),zs,zs,H',⟨Nat.le_refl _⟩,⟨zR HO142⟩,⟨bw⟩⟩
 case round =>
  clear H'
  try clear c1
  try clear c4
  try clear c4b0
  try clear c4b1
  try clear c5
  try clear c5b0
  try clear c5b1
  obtain ⟨x7_1,x8_1,x15_1,rfl,rfl,HA,HK1,HO_7,HB⟩:=hrel
  have hl7_1:=(Kd.R_reads' HO_7.out).1
  rw [hl7_1] at HO_7
  (try simp only [hl7_1])
  cases gk with
  | zero=>exact absurd HA.out (by simp [Yk.l0])
  | succ k1 =>
   have H:=HA.out
   clear HA
   simp only [Yk.l0] at H
   by_cases c9:x15_1<(y140.length:Int)
   case neg=>
    rw [if_neg c9] at H
    have c9b0:=decide_eq_false c9
    (try (have c9b0_hl7_1:=c9b0;simp only [hl7_1] at c9b0_hl7_1))
    clear c9
    obtain rfl:=Option.some.inj H
    go_wp2
    go_ret
    exact ⟨_,ze,zR HO_7,bw⟩
   rw [if_pos c9] at H
   have c9b0:=decide_eq_true c9
   (try (have c9b0_hl7_1:=c9b0;simp only [hl7_1] at c9b0_hl7_1))
   clear c9
   by_cases c10:x15_1<(l0.length:Int)
   case neg=>
    rw [if_neg c10] at H
    have c10b0:=decide_eq_false c10
    (try (have c10b0_hl7_1:=c10b0;simp only [hl7_1] at c10b0_hl7_1))
    clear c10
    by_cases c16:0≤x15_1
    case neg=>
     rw [if_neg c16] at H
     cases H
    rw [if_pos c16] at H
    have c16b0:=decide_eq_true c16
    clear c16
    by_cases c17:x15_1<(x7_1.length:Int)
    case neg=>
     rw [if_neg c17] at H
     cases H
    rw [if_pos c17] at H
    have c17b0:=decide_eq_true c17
    (try (have c17b0_hl7_1:=c17b0;simp only [hl7_1] at c17b0_hl7_1))
    clear c17
    obtain ⟨y145,hy145⟩:∃ y_:List Int,y_=(x7_1.set (x15_1:Int).toNat ((Int.tmod x8_1 1000000000)%4294967296)):=⟨_,rfl⟩
    replace H:(Yk.l0 k1 l0 a1 y145 (IntKind.u64.wrap (Int.tdiv x8_1 1000000000)) (y140.length:Int) (wrap64 (x15_1+1)))=some r:=zy hy145 H
    have Ny145:=aZ hy145
    clear hy145
    have H':=aZ H
    clear H
    have p18:0≤(x15_1:Int):=zd
    have q18:(x15_1:Int)<((x7_1.length:Int):Int):=zd
    obtain ⟨go18,co18,eo18,gb18,gl18,cl18,HG18⟩:=Kd.R_form HO_7.out (by omega)
    (first|cases eo18|(injection eo18 with ea_ en_ ec_;(first|subst ea_|(injection ea_ with ea_;subst ea_));subst ec_;clear en_))
    have GB18:=aZ gb18
    have GG18:=aZ HG18
    clear gb18 gl18 HG18
    obtain ⟨hx18_0,hf18_0⟩:=Kd.R_celln 0 HO_7.out (x15_1:Int) p18 q18
    replace p18:=eq_true p18
    replace q18:=eq_true q18
    have HP19:=Kd.R_putg HO_7.out (x15_1:Int) ((Int.tmod x8_1 1000000000)%4294967296)
    go_wp2_with (first|((with_reducible refine gate_store (t:=97) (p:=39) rfl ?_);refine store_event (t:=97) (p:=39) (v:=?vo_w20) (w1:=(wr.setCell ⟨go18,(x15_1:Int).toNat,none⟩ (.int .u32 ((Int.tmod x8_1 1000000000)%4294967296)))) ?hg ?ho ?hn ?hr ?_;(case ho=>rfl);(case hg=>rfl);(case hn=>rfl);(case hr=>first|(go_simp;done)|(go_simp;rfl));intro w20 hw;have hg:wr.grownBy w20 (some go18):=(by rw [hw];exact HP19.2);have hp_:Kd.R (Kd.int .u32) 97 w20 w.heap.size (fun _=>True) (.slice (some ⟨go18,0,none⟩) x7_1.length co8) y145:=(by rw [hw,Ny145.out];exact HP19.1);clear HP19;replace HO_7:=aZ (hp_);replace HB:=aZ ((by rw [hw];exact below_set (HB.out) GB18.out:Below w.heap.size w w20));clear hg hw hp_))
    (try simp only [← hl7_1])
    go_roundg k1
    case measure=>have:=HK1.out;omega
    case rel=>exact ⟨(y145),(IntKind.u64.wrap (Int.tdiv x8_1 1000000000)),(wrap64 (x15_1+1)),zs,zs,H',⟨by have:=HK1.out;omega⟩,⟨by (try simp only [hl7_1]);(with_reducible repeat (first|apply Kd.R_alloc|apply Kd.R_drewN|apply Kd.R_drew));exact HO_7.out⟩,⟨bw⟩⟩
   rw [if_pos c10] at H
   have c10b0:=decide_eq_true c10
   (try (have c10b0_hl7_1:=c10b0;simp only [hl7_1] at c10b0_hl7_1))
   clear c10
   by_cases c11:0≤x15_1
   case neg=>
    rw [if_neg c11] at H
    cases H
   rw [if_pos c11] at H
   have c11b0:=decide_eq_true c11
   clear c11
   by_cases c12:x15_1<(x7_1.length:Int)
   case neg=>
    rw [if_neg c12] at H
    cases H
   rw [if_pos c12] at H
   have c12b0:=decide_eq_true c12
   (try (have c12b0_hl7_1:=c12b0;simp only [hl7_1] at c12b0_hl7_1))
   clear c12
   obtain ⟨y144,hy144⟩:∃ y_:List Int,y_=(x7_1.set (x15_1:Int).toNat ((Int.tmod (IntKind.u64.wrap (x8_1+(IntKind.u64.wrap ((IntKind.u64.wrap (rd l0 x15_1))*a1)))) 1000000000)%4294967296)):=⟨_,rfl⟩
   replace H:(Yk.l0 k1 l0 a1 y144 (IntKind.u64.wrap (Int.tdiv (IntKind.u64.wrap (x8_1+(IntKind.u64.wrap ((IntKind.u64.wrap (rd l0 x15_1))*a1)))) 1000000000)) (y140.length:Int) (wrap64 (x15_1+1)))=some r:=zy hy144 H
   have Ny144:=aZ hy144
   clear hy144
   have H':=aZ H
   clear H
   have p143:0≤(x15_1:Int):=zd
   have q143:x15_1<(l0.length:Int):=zd
   obtain ⟨ad143,e143,hx143_0⟩:=Kd.at_int HR0.out x15_1 p143 q143
   cases e143
   replace hx143_0:=(HB.out.cell (World.block_lt_of_cell? w _ hx143_0)).trans hx143_0
   replace p143:=eq_true p143
   replace q143:=eq_true q143
   have p13:0≤(x15_1:Int):=zd
   have q13:(x15_1:Int)<((x7_1.length:Int):Int):=zd
   obtain ⟨go13,co13,eo13,gb13,gl13,cl13,HG13⟩:=Kd.R_form HO_7.out (by omega)
   (first|cases eo13|(injection eo13 with ea_ en_ ec_;(first|subst ea_|(injection ea_ with ea_;subst ea_));subst ec_;clear en_))
   have GB13:=aZ gb13
   have GG13:=aZ HG13
   clear gb13 gl13 HG13
   obtain ⟨hx13_0,hf13_0⟩:=Kd.R_celln 0 HO_7.out (x15_1:Int) p13 q13
   replace p13:=eq_true p13
   replace q13:=eq_true q13
   have HP14:=Kd.R_putg HO_7.out (x15_1:Int) ((Int.tmod (IntKind.u64.wrap (x8_1+(IntKind.u64.wrap ((IntKind.u64.wrap (rd l0 x15_1))*a1)))) 1000000000)%4294967296)
   go_wp2_with (first|((with_reducible refine gate_store (t:=97) (p:=39) rfl ?_);refine store_event (t:=97) (p:=39) (v:=?vo_w15) (w1:=(wr.setCell ⟨go13,(x15_1:Int).toNat,none⟩ (.int .u32 ((Int.tmod (IntKind.u64.wrap (x8_1+(IntKind.u64.wrap ((IntKind.u64.wrap (rd l0 x15_1))*a1)))) 1000000000)%4294967296)))) ?hg ?ho ?hn ?hr ?_;(case ho=>rfl);(case hg=>rfl);(case hn=>rfl);(case hr=>first|(go_simp;done)|(go_simp;rfl));intro w15 hw;have hg:wr.grownBy w15 (some go13):=(by rw [hw];exact HP14.2);have hp_:Kd.R (Kd.int .u32) 97 w15 w.heap.size (fun _=>True) (.slice (some ⟨go13,0,none⟩) x7_1.length co8) y144:=(by rw [hw,Ny144.out];exact HP14.1);clear HP14;replace HO_7:=aZ (hp_);replace HB:=aZ ((by rw [hw];exact below_set (HB.out) GB13.out:Below w.heap.size w w15));clear hg hw hp_))
   (try simp only [← hl7_1])
   go_roundg k1
   case measure=>have:=HK1.out;omega
   case rel=>exact ⟨(y144),(IntKind.u64.wrap (Int.tdiv (IntKind.u64.wrap (x8_1+(IntKind.u64.wrap ((IntKind.u64.wrap (rd l0 x15_1))*a1)))) 1000000000)),(wrap64 (x15_1+1)),zs,zs,H',⟨by have:=HK1.out;omega⟩,⟨by (try simp only [hl7_1]);(with_reducible repeat (first|apply Kd.R_alloc|apply Kd.R_drewN|apply Kd.R_drew));exact HO_7.out⟩,⟨bw⟩⟩
def Yp.l0:Nat→List Int→List Int→Int→Int→Int→Int→Option (Bool×List Int)
 | 0,_,_,_,_,_,_=>none
 | k+1,x0,x1,x2,x7,x13,x14=>if x14<x13 then (if x14<(x1.length:Int) then (if 0≤x14 then (if x14<(x0.length:Int) then (if (IntKind.u64.wrap (rd x0 x14))<(Int.tmod (IntKind.u64.wrap (x7+(IntKind.u64.wrap (x2*(IntKind.u64.wrap (rd x1 x14)))))) 1000000000) then (Yp.l0 k (x0.set (x14:Int).toNat ((IntKind.u64.wrap ((IntKind.u64.wrap (rd x0 x14))+(IntKind.u64.wrap (1000000000-(Int.tmod (IntKind.u64.wrap (x7+(IntKind.u64.wrap (x2*(IntKind.u64.wrap (rd x1 x14)))))) 1000000000)))))%4294967296)) x1 x2 (IntKind.u64.wrap ((IntKind.u64.wrap (Int.tdiv (IntKind.u64.wrap (x7+(IntKind.u64.wrap (x2*(IntKind.u64.wrap (rd x1 x14)))))) 1000000000))+1)) x13 (wrap64 (x14+1))) else (Yp.l0 k (x0.set (x14:Int).toNat ((IntKind.u64.wrap ((IntKind.u64.wrap (rd x0 x14))-(Int.tmod (IntKind.u64.wrap (x7+(IntKind.u64.wrap (x2*(IntKind.u64.wrap (rd x1 x14)))))) 1000000000)))%4294967296)) x1 x2 (IntKind.u64.wrap (Int.tdiv (IntKind.u64.wrap (x7+(IntKind.u64.wrap (x2*(IntKind.u64.wrap (rd x1 x14)))))) 1000000000)) x13 (wrap64 (x14+1)))) else (none)) else (none)) else (if 0≤x14 then (if x14<(x0.length:Int) then (if (IntKind.u64.wrap (rd x0 x14))<(Int.tmod x7 1000000000) then (Yp.l0 k (x0.set (x14:Int).toNat ((IntKind.u64.wrap ((IntKind.u64.wrap (rd x0 x14))+(IntKind.u64.wrap (1000000000-(Int.tmod x7 1000000000)))))%4294967296)) x1 x2 (IntKind.u64.wrap ((IntKind.u64.wrap (Int.tdiv x7 1000000000))+1)) x13 (wrap64 (x14+1))) else (Yp.l0 k (x0.set (x14:Int).toNat ((IntKind.u64.wrap ((IntKind.u64.wrap (rd x0 x14))-(Int.tmod x7 1000000000)))%4294967296)) x1 x2 (IntKind.u64.wrap (Int.tdiv x7 1000000000)) x13 (wrap64 (x14+1)))) else (none)) else (none))) else (some (decide (x7 > 0),x0))
def Yp.f (k:Nat) (l0:List Int) (l1:List Int) (a2:Int):Option (Bool×List Int):=Yp.l0 k l0 l1 a2 0 (l0.length:Int) 0
theorem Yp.mono_l:∀ k,(∀ y0 y1 y2 y3 y4 y5,LeO (Yp.l0 k y0 y1 y2 y3 y4 y5) (Yp.l0 (k+1) y0 y1 y2 y3 y4 y5))
 | 0=>fun _ _ _ _ _ _ r h=>by simp [Yp.l0] at h
 | k+1=>by
  have ih0:=Yp.mono_l k
  ·intro y0 y1 y2 y3 y4 y5
   unfold Yp.l0
   exact zM
theorem Yp.mono:∀ a0 a1 a2 k,LeO (Yp.f k a0 a1 a2) (Yp.f (k+1) a0 a1 a2):=by
 intro a0 a1 a2 k
 have ih0:=Yp.mono_l k
 unfold Yp.f
 exact zM
def Ys.l0:Nat→List Int→List Int→Int→Int→Int→Option (List Int)
 | 0,_,_,_,_,_=>none
 | k+1,x0,x1,x4,x8,x9=>if x9<x8 then (if 0≤x9 then (if x9<(x0.length:Int) then (if x9<(x1.length:Int) then (Ys.l0 k (x0.set (x9:Int).toNat ((((((rd x0 x9)+x4)%4294967296)+(rd x1 x9))%4294967296)%1000000000)) x1 ((((((rd x0 x9)+x4)%4294967296)+(rd x1 x9))%4294967296)/1000000000) x8 (wrap64 (x9+1))) else (Ys.l0 k (x0.set (x9:Int).toNat ((((rd x0 x9)+x4)%4294967296)%1000000000)) x1 ((((rd x0 x9)+x4)%4294967296)/1000000000) x8 (wrap64 (x9+1)))) else (none)) else (none)) else (some x0)
def Ys.f (k:Nat) (l0:List Int) (l1:List Int):Option (List Int):=Ys.l0 k l0 l1 0 (l0.length:Int) 0
theorem Ys.mono_l:∀ k,(∀ y0 y1 y2 y3 y4,LeO (Ys.l0 k y0 y1 y2 y3 y4) (Ys.l0 (k+1) y0 y1 y2 y3 y4))
 | 0=>fun _ _ _ _ _ r h=>by simp [Ys.l0] at h
 | k+1=>by
  have ih0:=Ys.mono_l k
  ·intro y0 y1 y2 y3 y4
   unfold Ys.l0
   exact zM
theorem Ys.mono:∀ a0 a1 k,LeO (Ys.f k a0 a1) (Ys.f (k+1) a0 a1):=by
 intro a0 a1 k
 have ih0:=Ys.mono_l k
 unfold Ys.f
 exact zM
mutual
def Ym.j1:Nat→List Int→List Int→Int→Option (Int×List Int)
 | 0,_,_,_=>none
 | k+1,x0,x1,x7=>(Yp.f k x0 x1 x7).bind fun bt164=>(if bt164.1=true then ((Ys.f k bt164.2 x1).bind fun t166=>(some (IntKind.u64.wrap (x7-1),t166))) else (some (x7,bt164.2)))
def Ym.l0:Nat→List Int→List Int→Int→Int→Int→Option (Int×List Int)
 | 0,_,_,_,_,_=>none
 | k+1,x0,x1,x5,x7,x8=>if x8<1000000000 then (if 0≤(wrap64 (x5-2)) then (if (wrap64 (x5-2))<(x1.length:Int) then (if (wrap64 (x5-2))<(x0.length:Int) then (if (IntKind.u64.wrap (x7*(IntKind.u64.wrap (rd x1 (wrap64 (x5-2))))))>(IntKind.u64.wrap ((IntKind.u64.wrap (x8*1000000000))+(IntKind.u64.wrap (rd x0 (wrap64 (x5-2)))))) then (if 0≤(wrap64 (x5-1)) then (if (wrap64 (x5-1))<(x1.length:Int) then (Ym.l0 k x0 x1 x5 (IntKind.u64.wrap (x7-1)) (IntKind.u64.wrap (x8+(IntKind.u64.wrap (rd x1 (wrap64 (x5-1))))))) else (none)) else (none)) else (Ym.j1 k x0 x1 x7)) else (none)) else (none)) else (none)) else (Ym.j1 k x0 x1 x7)
end
def Ym.f (k:Nat) (l0:List Int) (l1:List Int):Option (Int×List Int):=if 0≤(l1.length:Int) then (if (l1.length:Int)<(l0.length:Int) then (if 0≤(wrap64 ((l1.length:Int)-1)) then (if (wrap64 ((l1.length:Int)-1))<(l0.length:Int) then (if (wrap64 ((l1.length:Int)-1))<(l1.length:Int) then (if (IntKind.u64.wrap (rd l1 (wrap64 ((l1.length:Int)-1))))=0 then (none) else (Ym.l0 k l0 l1 (l1.length:Int) (mn (IntKind.u64.wrap (Int.tdiv (IntKind.u64.wrap ((IntKind.u64.wrap ((IntKind.u64.wrap (rd l0 (l1.length:Int)))*1000000000))+(IntKind.u64.wrap (rd l0 (wrap64 ((l1.length:Int)-1)))))) (IntKind.u64.wrap (rd l1 (wrap64 ((l1.length:Int)-1)))))) 999999999) (IntKind.u64.wrap ((IntKind.u64.wrap ((IntKind.u64.wrap ((IntKind.u64.wrap (rd l0 (l1.length:Int)))*1000000000))+(IntKind.u64.wrap (rd l0 (wrap64 ((l1.length:Int)-1))))))-(IntKind.u64.wrap ((mn (IntKind.u64.wrap (Int.tdiv (IntKind.u64.wrap ((IntKind.u64.wrap ((IntKind.u64.wrap (rd l0 (l1.length:Int)))*1000000000))+(IntKind.u64.wrap (rd l0 (wrap64 ((l1.length:Int)-1)))))) (IntKind.u64.wrap (rd l1 (wrap64 ((l1.length:Int)-1)))))) 999999999)*(IntKind.u64.wrap (rd l1 (wrap64 ((l1.length:Int)-1)))))))))) else (none)) else (none)) else (none)) else (none)) else (none)
theorem Ym.mono_l:∀ k,(∀ y0 y1 y2,LeO (Ym.j1 k y0 y1 y2) (Ym.j1 (k+1) y0 y1 y2))∧(∀ y0 y1 y2 y3 y4,LeO (Ym.l0 k y0 y1 y2 y3 y4) (Ym.l0 (k+1) y0 y1 y2 y3 y4))
 | 0=>⟨fun _ _ _ r h=>by simp [Ym.j1] at h,fun _ _ _ _ _ r h=>by simp [Ym.l0] at h⟩
 | k+1=>by
  obtain ⟨ih0,ih1⟩:=Ym.mono_l k
  refine ⟨?_,?_⟩
  ·intro y0 y1 y2
   unfold Ym.j1
   have m0:=Yp.mono
   have m1:=Ys.mono
   exact zM
  ·intro y0 y1 y2 y3 y4
   unfold Ym.l0
   have m0:=Yp.mono
   have m1:=Ys.mono
   exact zM
theorem Ym.mono:∀ a0 a1 k,LeO (Ym.f k a0 a1) (Ym.f (k+1) a0 a1):=by
 intro a0 a1 k
 obtain ⟨ih0,ih1⟩:=Ym.mono_l k
 unfold Ym.f
 have m0:=Yp.mono
 have m1:=Ys.mono
 exact zM
section
theorem Yp.callsS (pre_ suf_:List Int) (k:Nat) (P0_:Nat→Prop) (u9000_:Value) (l0:List Int) (A1:Option Addr) (c1:Nat) (l1:List Int) (a2:Int) (r1:Bool) (r2:List Int) (w0 w:World) (hB:Below w0.heap.size w0 w) (ho0:Sg .u32 97 pre_ suf_ w w0.heap.size P0_ u9000_ l0) (hr1:∀ W_,Kept w W_ (fun k_=>P0_ k_)→Kd.C (Kd.int .u32) W_ A1 l1.length l1) (hc1:l1.length≤c1) (h:Yp.f k l0 l1 a2=some (r1,r2)) :
  Calls Tryz.prog 202 #[u9000_,.slice A1 l1.length c1,.int .u64 a2] w fun e w'=>e = .returned (.bool r1)∧Sg .u32 97 pre_ suf_ w' w0.heap.size (fun k_=>(P0_ k_∨w.heap.size≤k_)) u9000_ r2∧Below w0.heap.size w0 w'∧Kept w w' (fun k_=>P0_ k_):=by
 have HO0:=aZ (show Sg .u32 97 pre_ suf_ w w0.heap.size (fun k_=>(P0_ k_∨w.heap.size≤k_)) u9000_ l0 from Sg.R_mono ho0 (fun k_ hk=>(.inl hk)))
 have HR1:=aZ hr1
 have HC1:=aZ hc1
 clear hr1 hc1
 have HK:=aZ (Kept.refl w (fun k_=>P0_ k_))
 have HW0:=aZ hB.size
 have HB:=aZ hB
 clear hB
 have H:(Yp.l0 k l0 l1 a2 0 (l0.length:Int) 0)=some (r1,r2):=h
 clear h
 have H':=aZ H
 clear H
 obtain ⟨Ao4,co4,eo4⟩:=Sg.R_slice HO0.out
 subst eo4
 go_enter func202,ntmps202
 go_wp2
 go_loopg [7,14] k (fun kq v7 v14 w'=>∃ (x0_1:List Int) (x7_1:Int) (x14_1:Int),v7 = .int .u64 x7_1∧v14 = .int .i64 x14_1∧Aside0 (Yp.l0 kq x0_1 l1 a2 x7_1 (l0.length:Int) x14_1=some (r1,r2))∧Aside0 (kq≤k)∧Aside0 (Sg .u32 97 pre_ suf_ w' w0.heap.size (fun k_=>(P0_ k_∨w.heap.size≤k_)) (.slice Ao4 l0.length co4) x0_1)∧Aside0 (Kept w w' (fun k_=>P0_ k_))∧Aside0 (Below w0.heap.size w0 w'))
 case atStart=>exact ⟨(l0),(0),(0),zs,zs,H',⟨Nat.le_refl _⟩,⟨by (with_reducible repeat (first|apply Sg.R_alloc|apply Sg.R_drewN|apply Sg.R_drew));exact HO0.out⟩,⟨kw⟩,⟨bw⟩⟩
 case round =>
  clear H'
  try clear c1
  try clear c2
  obtain ⟨x0_1,x7_1,x14_1,rfl,rfl,HA,HK1,HO_0,HK,HB⟩:=hrel
  have hl0_1:=(Sg.R_reads' HO_0.out).1
  rw [hl0_1] at HO_0
  (try simp only [hl0_1])
  cases gk with
  | zero=>exact absurd HA.out (by simp [Yp.l0])
  | succ k1 =>
   have H:=HA.out
   clear HA
   simp only [Yp.l0] at H
   by_cases c5:x14_1<(l0.length:Int)
   case neg=>
    rw [if_neg c5] at H
    have c5b0:=decide_eq_false c5
    (try (have c5b0_hl0_1:=c5b0;simp only [hl0_1] at c5b0_hl0_1))
    clear c5
    simp only [Option.some.injEq,Prod.mk.injEq] at H
    obtain ⟨rfl,rfl⟩:=H
    go_wp2
    go_ret
    exact ⟨ze,(by first|exact (by (with_reducible repeat (first|apply Sg.R_alloc|apply Sg.R_drewN|apply Sg.R_drew));exact HO_0.out)|(simp only [hl0_1];exact (by (with_reducible repeat (first|apply Sg.R_alloc|apply Sg.R_drewN|apply Sg.R_drew));exact HO_0.out))),bw,kw⟩
   rw [if_pos c5] at H
   have c5b0:=decide_eq_true c5
   (try (have c5b0_hl0_1:=c5b0;simp only [hl0_1] at c5b0_hl0_1))
   clear c5
   by_cases c6:x14_1<(l1.length:Int)
   case neg=>
    rw [if_neg c6] at H
    have c6b0:=decide_eq_false c6
    (try (have c6b0_hl0_1:=c6b0;simp only [hl0_1] at c6b0_hl0_1))
    clear c6
    by_cases c16:0≤x14_1
    case neg=>
     rw [if_neg c16] at H
     cases H
    rw [if_pos c16] at H
    have c16b0:=decide_eq_true c16
    clear c16
    by_cases c17:x14_1<(x0_1.length:Int)
    case neg=>
     rw [if_neg c17] at H
     cases H
    rw [if_pos c17] at H
    have c17b0:=decide_eq_true c17
    (try (have c17b0_hl0_1:=c17b0;simp only [hl0_1] at c17b0_hl0_1))
    clear c17
    by_cases c18:(IntKind.u64.wrap (rd x0_1 x14_1))<(Int.tmod x7_1 1000000000)
    case neg=>
     rw [if_neg c18] at H
     have c18b0:=decide_eq_false c18
     clear c18
     obtain ⟨y152,hy152⟩:∃ y_:List Int,y_=(x0_1.set (x14_1:Int).toNat ((IntKind.u64.wrap ((IntKind.u64.wrap (rd x0_1 x14_1))-(Int.tmod x7_1 1000000000)))%4294967296)):=⟨_,rfl⟩
     replace H:(Yp.l0 k1 y152 l1 a2 (IntKind.u64.wrap (Int.tdiv x7_1 1000000000)) (l0.length:Int) (wrap64 (x14_1+1)))=some (r1,r2):=zy hy152 H
     have Ny152:=aZ hy152
     clear hy152
     have H':=aZ H
     clear H
     have p150:0≤(x14_1:Int):=zd
     have q150:x14_1<(x0_1.length:Int):=zd
     obtain ⟨ad150,e150,hx150_0⟩:=Kd.at_int (Sg.R_reads' HO_0.out).2.2 x14_1 p150 q150
     cases e150
     replace p150:=eq_true p150
     replace q150:=eq_true q150
     have p22:0≤(x14_1:Int):=zd
     have q22:(x14_1:Int)<((x0_1.length:Int):Int):=zd
     obtain ⟨go22,co22,eo22,gb22,gl22,cl22,HG22⟩:=Sg.R_form HO_0.out (by omega)
     (first|cases eo22|(injection eo22 with ea_ en_ ec_;(first|subst ea_|(injection ea_ with ea_;subst ea_));subst ec_;clear en_))
     have GB22:=aZ gb22
     have GG22:=aZ HG22
     clear gb22 gl22 HG22
     have HMgo22:=aZ (show (P0_ go22∨w.heap.size≤go22) from (HO_0.out.1 _ rfl))
     (first|simp only [Addr.add_lit] at hx150_0|skip)
     obtain ⟨hx22_0,hf22_0⟩:=Sg.R_celln 0 HO_0.out (x14_1:Int) p22 q22
     replace p22:=eq_true p22
     replace q22:=eq_true q22
     have HP23:=Sg.R_putg HO_0.out (x14_1:Int) (of_eq_true (by assumption)) (of_eq_true (by assumption)) ((IntKind.u64.wrap ((IntKind.u64.wrap (rd x0_1 x14_1))-(Int.tmod x7_1 1000000000)))%4294967296)
     go_wp2_with (first|((with_reducible refine gate_store (t:=97) (p:=56) rfl ?_);refine store_event (t:=97) (p:=56) (v:=?vo_w24) (w1:=(wr.setCell ⟨go22,pre_.length+(x14_1:Int).toNat,none⟩ (.int .u32 ((IntKind.u64.wrap ((IntKind.u64.wrap (rd x0_1 x14_1))-(Int.tmod x7_1 1000000000)))%4294967296)))) ?hg ?ho ?hn ?hr ?_;(case ho=>rfl);(case hg=>rfl);(case hn=>rfl);(case hr=>first|(go_simp;done)|(go_simp;rfl));intro w24 hw;have hg:wr.grownBy w24 (some go22):=(by rw [hw];exact HP23.2);have hp_:Sg .u32 97 pre_ suf_ w24 w0.heap.size (fun k_=>(P0_ k_∨w.heap.size≤k_)) (.slice (some ⟨go22,pre_.length,none⟩) x0_1.length co4) y152:=(by rw [hw,Ny152.out];exact HP23.1);clear HP23;replace HB:=aZ ((by rw [hw];exact below_set (HB.out) GB22.out:Below w0.heap.size w0 w24));replace HK:=aZ (Kept.of_grown (S:=(fun k_=>P0_ k_)) hg kw (fun k_ e_=>(HO_0.out.1 k_ e_)));replace HO_0:=aZ (hp_);clear hg hw hp_))
     (try simp only [← hl0_1])
     go_roundg k1
     case measure=>have:=HK1.out;omega
     case rel=>exact ⟨(y152),(IntKind.u64.wrap (Int.tdiv x7_1 1000000000)),(wrap64 (x14_1+1)),zs,zs,H',⟨by have:=HK1.out;omega⟩,⟨by (try simp only [hl0_1]);(with_reducible repeat (first|apply Sg.R_alloc|apply Sg.R_drewN|apply Sg.R_drew));exact HO_0.out⟩,⟨kw⟩,⟨bw⟩⟩
    rw [if_pos c18] at H
    have c18b0:=decide_eq_true c18
    clear c18
    obtain ⟨y151,hy151⟩:∃ y_:List Int,y_=(x0_1.set (x14_1:Int).toNat ((IntKind.u64.wrap ((IntKind.u64.wrap (rd x0_1 x14_1))+(IntKind.u64.wrap (1000000000-(Int.tmod x7_1 1000000000)))))%4294967296)):=⟨_,rfl⟩
    replace H:(Yp.l0 k1 y151 l1 a2 (IntKind.u64.wrap ((IntKind.u64.wrap (Int.tdiv x7_1 1000000000))+1)) (l0.length:Int) (wrap64 (x14_1+1)))=some (r1,r2):=zy hy151 H
    have Ny151:=aZ hy151
    clear hy151
    have H':=aZ H
    clear H
    have p150:0≤(x14_1:Int):=zd
    have q150:x14_1<(x0_1.length:Int):=zd
    obtain ⟨ad150,e150,hx150_0⟩:=Kd.at_int (Sg.R_reads' HO_0.out).2.2 x14_1 p150 q150
    cases e150
    replace p150:=eq_true p150
    replace q150:=eq_true q150
    have p19:0≤(x14_1:Int):=zd
    have q19:(x14_1:Int)<((x0_1.length:Int):Int):=zd
    obtain ⟨go19,co19,eo19,gb19,gl19,cl19,HG19⟩:=Sg.R_form HO_0.out (by omega)
    (first|cases eo19|(injection eo19 with ea_ en_ ec_;(first|subst ea_|(injection ea_ with ea_;subst ea_));subst ec_;clear en_))
    have GB19:=aZ gb19
    have GG19:=aZ HG19
    clear gb19 gl19 HG19
    have HMgo19:=aZ (show (P0_ go19∨w.heap.size≤go19) from (HO_0.out.1 _ rfl))
    (first|simp only [Addr.add_lit] at hx150_0|skip)
    obtain ⟨hx19_0,hf19_0⟩:=Sg.R_celln 0 HO_0.out (x14_1:Int) p19 q19
    replace p19:=eq_true p19
    replace q19:=eq_true q19
    have HP20:=Sg.R_putg HO_0.out (x14_1:Int) (of_eq_true (by assumption)) (of_eq_true (by assumption)) ((IntKind.u64.wrap ((IntKind.u64.wrap (rd x0_1 x14_1))+(IntKind.u64.wrap (1000000000-(Int.tmod x7_1 1000000000)))))%4294967296)
    go_wp2_with (first|((with_reducible refine gate_store (t:=97) (p:=56) rfl ?_);refine store_event (t:=97) (p:=56) (v:=?vo_w21) (w1:=(wr.setCell ⟨go19,pre_.length+(x14_1:Int).toNat,none⟩ (.int .u32 ((IntKind.u64.wrap ((IntKind.u64.wrap (rd x0_1 x14_1))+(IntKind.u64.wrap (1000000000-(Int.tmod x7_1 1000000000)))))%4294967296)))) ?hg ?ho ?hn ?hr ?_;(case ho=>rfl);(case hg=>rfl);(case hn=>rfl);(case hr=>first|(go_simp;done)|(go_simp;rfl));intro w21 hw;have hg:wr.grownBy w21 (some go19):=(by rw [hw];exact HP20.2);have hp_:Sg .u32 97 pre_ suf_ w21 w0.heap.size (fun k_=>(P0_ k_∨w.heap.size≤k_)) (.slice (some ⟨go19,pre_.length,none⟩) x0_1.length co4) y151:=(by rw [hw,Ny151.out];exact HP20.1);clear HP20;replace HB:=aZ ((by rw [hw];exact below_set (HB.out) GB19.out:Below w0.heap.size w0 w21));replace HK:=aZ (Kept.of_grown (S:=(fun k_=>P0_ k_)) hg kw (fun k_ e_=>(HO_0.out.1 k_ e_)));replace HO_0:=aZ (hp_);clear hg hw hp_))
    (try simp only [← hl0_1])
    go_roundg k1
    case measure=>have:=HK1.out;omega
    case rel=>exact ⟨(y151),(IntKind.u64.wrap ((IntKind.u64.wrap (Int.tdiv x7_1 1000000000))+1)),(wrap64 (x14_1+1)),zs,zs,H',⟨by have:=HK1.out;omega⟩,⟨by (try simp only [hl0_1]);(with_reducible repeat (first|apply Sg.R_alloc|apply Sg.R_drewN|apply Sg.R_drew));exact HO_0.out⟩,⟨kw⟩,⟨bw⟩⟩
   rw [if_pos c6] at H
   have c6b0:=decide_eq_true c6
   (try (have c6b0_hl0_1:=c6b0;simp only [hl0_1] at c6b0_hl0_1))
   clear c6
   by_cases c7:0≤x14_1
   case neg=>
    rw [if_neg c7] at H
    cases H
   rw [if_pos c7] at H
   have c7b0:=decide_eq_true c7
   clear c7
   by_cases c8:x14_1<(x0_1.length:Int)
   case neg=>
    rw [if_neg c8] at H
    cases H
   rw [if_pos c8] at H
   have c8b0:=decide_eq_true c8
   (try (have c8b0_hl0_1:=c8b0;simp only [hl0_1] at c8b0_hl0_1))
   clear c8
   by_cases c9:(IntKind.u64.wrap (rd x0_1 x14_1))<(Int.tmod (IntKind.u64.wrap (x7_1+(IntKind.u64.wrap (a2*(IntKind.u64.wrap (rd l1 x14_1)))))) 1000000000)
   case neg=>
    rw [if_neg c9] at H
    have c9b0:=decide_eq_false c9
    clear c9
    obtain ⟨y149,hy149⟩:∃ y_:List Int,y_=(x0_1.set (x14_1:Int).toNat ((IntKind.u64.wrap ((IntKind.u64.wrap (rd x0_1 x14_1))-(Int.tmod (IntKind.u64.wrap (x7_1+(IntKind.u64.wrap (a2*(IntKind.u64.wrap (rd l1 x14_1)))))) 1000000000)))%4294967296)):=⟨_,rfl⟩
    replace H:(Yp.l0 k1 y149 l1 a2 (IntKind.u64.wrap (Int.tdiv (IntKind.u64.wrap (x7_1+(IntKind.u64.wrap (a2*(IntKind.u64.wrap (rd l1 x14_1)))))) 1000000000)) (l0.length:Int) (wrap64 (x14_1+1)))=some (r1,r2):=zy hy149 H
    have Ny149:=aZ hy149
    clear hy149
    have H':=aZ H
    clear H
    have p146:0≤(x14_1:Int):=zd
    have q146:x14_1<(l1.length:Int):=zd
    obtain ⟨ad146,e146,hx146_0⟩:=Kd.at_int (Kd.C_kept_now HR1.out HK.out) x14_1 p146 q146
    cases e146
    replace p146:=eq_true p146
    replace q146:=eq_true q146
    have p147:0≤(x14_1:Int):=zd
    have q147:x14_1<(x0_1.length:Int):=zd
    obtain ⟨ad147,e147,hx147_0⟩:=Kd.at_int (Sg.R_reads' HO_0.out).2.2 x14_1 p147 q147
    cases e147
    replace p147:=eq_true p147
    replace q147:=eq_true q147
    have p13:0≤(x14_1:Int):=zd
    have q13:(x14_1:Int)<((x0_1.length:Int):Int):=zd
    obtain ⟨go13,co13,eo13,gb13,gl13,cl13,HG13⟩:=Sg.R_form HO_0.out (by omega)
    (first|cases eo13|(injection eo13 with ea_ en_ ec_;(first|subst ea_|(injection ea_ with ea_;subst ea_));subst ec_;clear en_))
    have GB13:=aZ gb13
    have GG13:=aZ HG13
    clear gb13 gl13 HG13
    have HMgo13:=aZ (show (P0_ go13∨w.heap.size≤go13) from (HO_0.out.1 _ rfl))
    (first|simp only [Addr.add_lit] at hx147_0|skip)
    obtain ⟨hx13_0,hf13_0⟩:=Sg.R_celln 0 HO_0.out (x14_1:Int) p13 q13
    replace p13:=eq_true p13
    replace q13:=eq_true q13
    have HP14:=Sg.R_putg HO_0.out (x14_1:Int) (of_eq_true (by assumption)) (of_eq_true (by assumption)) ((IntKind.u64.wrap ((IntKind.u64.wrap (rd x0_1 x14_1))-(Int.tmod (IntKind.u64.wrap (x7_1+(IntKind.u64.wrap (a2*(IntKind.u64.wrap (rd l1 x14_1)))))) 1000000000)))%4294967296)
    go_wp2_with (first|((with_reducible refine gate_store (t:=97) (p:=56) rfl ?_);refine store_event (t:=97) (p:=56) (v:=?vo_w15) (w1:=(wr.setCell ⟨go13,pre_.length+(x14_1:Int).toNat,none⟩ (.int .u32 ((IntKind.u64.wrap ((IntKind.u64.wrap (rd x0_1 x14_1))-(Int.tmod (IntKind.u64.wrap (x7_1+(IntKind.u64.wrap (a2*(IntKind.u64.wrap (rd l1 x14_1)))))) 1000000000)))%4294967296)))) ?hg ?ho ?hn ?hr ?_;(case ho=>rfl);(case hg=>rfl);(case hn=>rfl);(case hr=>first|(go_simp;done)|(go_simp;rfl));intro w15 hw;have hg:wr.grownBy w15 (some go13):=(by rw [hw];exact HP14.2);have hp_:Sg .u32 97 pre_ suf_ w15 w0.heap.size (fun k_=>(P0_ k_∨w.heap.size≤k_)) (.slice (some ⟨go13,pre_.length,none⟩) x0_1.length co4) y149:=(by rw [hw,Ny149.out];exact HP14.1);clear HP14;replace HB:=aZ ((by rw [hw];exact below_set (HB.out) GB13.out:Below w0.heap.size w0 w15));replace HK:=aZ (Kept.of_grown (S:=(fun k_=>P0_ k_)) hg kw (fun k_ e_=>(HO_0.out.1 k_ e_)));replace HO_0:=aZ (hp_);clear hg hw hp_))
    (try simp only [← hl0_1])
    go_roundg k1
    case measure=>have:=HK1.out;omega
    case rel=>exact ⟨(y149),(IntKind.u64.wrap (Int.tdiv (IntKind.u64.wrap (x7_1+(IntKind.u64.wrap (a2*(IntKind.u64.wrap (rd l1 x14_1)))))) 1000000000)),(wrap64 (x14_1+1)),zs,zs,H',⟨by have:=HK1.out;omega⟩,⟨by (try simp only [hl0_1]);(with_reducible repeat (first|apply Sg.R_alloc|apply Sg.R_drewN|apply Sg.R_drew));exact HO_0.out⟩,⟨kw⟩,⟨bw⟩⟩
   rw [if_pos c9] at H
   have c9b0:=decide_eq_true c9
   clear c9
   obtain ⟨y148,hy148⟩:∃ y_:List Int,y_=(x0_1.set (x14_1:Int).toNat ((IntKind.u64.wrap ((IntKind.u64.wrap (rd x0_1 x14_1))+(IntKind.u64.wrap (1000000000-(Int.tmod (IntKind.u64.wrap (x7_1+(IntKind.u64.wrap (a2*(IntKind.u64.wrap (rd l1 x14_1)))))) 1000000000)))))%4294967296)):=⟨_,rfl⟩
   replace H:(Yp.l0 k1 y148 l1 a2 (IntKind.u64.wrap ((IntKind.u64.wrap (Int.tdiv (IntKind.u64.wrap (x7_1+(IntKind.u64.wrap (a2*(IntKind.u64.wrap (rd l1 x14_1)))))) 1000000000))+1)) (l0.length:Int) (wrap64 (x14_1+1)))=some (r1,r2):=zy hy148 H
   have Ny148:=aZ hy148
   clear hy148
   have H':=aZ H
   clear H
   have p146:0≤(x14_1:Int):=zd
   have q146:x14_1<(l1.length:Int):=zd
   obtain ⟨ad146,e146,hx146_0⟩:=Kd.at_int (Kd.C_kept_now HR1.out HK.out) x14_1 p146 q146
   cases e146
   replace p146:=eq_true p146
   replace q146:=eq_true q146
   have p147:0≤(x14_1:Int):=zd
   have q147:x14_1<(x0_1.length:Int):=zd
   obtain ⟨ad147,e147,hx147_0⟩:=Kd.at_int (Sg.R_reads' HO_0.out).2.2 x14_1 p147 q147
   cases e147
   replace p147:=eq_true p147
   replace q147:=eq_true q147
   have p10:0≤(x14_1:Int):=zd
   have q10:(x14_1:Int)<((x0_1.length:Int):Int):=zd
   obtain ⟨go10,co10,eo10,gb10,gl10,cl10,HG10⟩:=Sg.R_form HO_0.out (by omega)
   (first|cases eo10|(injection eo10 with ea_ en_ ec_;(first|subst ea_|(injection ea_ with ea_;subst ea_));subst ec_;clear en_))
   have GB10:=aZ gb10
   have GG10:=aZ HG10
   clear gb10 gl10 HG10
   have HMgo10:=aZ (show (P0_ go10∨w.heap.size≤go10) from (HO_0.out.1 _ rfl))
   (first|simp only [Addr.add_lit] at hx147_0|skip)
   obtain ⟨hx10_0,hf10_0⟩:=Sg.R_celln 0 HO_0.out (x14_1:Int) p10 q10
   replace p10:=eq_true p10
   replace q10:=eq_true q10
   have HP11:=Sg.R_putg HO_0.out (x14_1:Int) (of_eq_true (by assumption)) (of_eq_true (by assumption)) ((IntKind.u64.wrap ((IntKind.u64.wrap (rd x0_1 x14_1))+(IntKind.u64.wrap (1000000000-(Int.tmod (IntKind.u64.wrap (x7_1+(IntKind.u64.wrap (a2*(IntKind.u64.wrap (rd l1 x14_1)))))) 1000000000)))))%4294967296)
   go_wp2_with (first|((with_reducible refine gate_store (t:=97) (p:=56) rfl ?_);refine store_event (t:=97) (p:=56) (v:=?vo_w12) (w1:=(wr.setCell ⟨go10,pre_.length+(x14_1:Int).toNat,none⟩ (.int .u32 ((IntKind.u64.wrap ((IntKind.u64.wrap (rd x0_1 x14_1))+(IntKind.u64.wrap (1000000000-(Int.tmod (IntKind.u64.wrap (x7_1+(IntKind.u64.wrap (a2*(IntKind.u64.wrap (rd l1 x14_1)))))) 1000000000)))))%4294967296)))) ?hg ?ho ?hn ?hr ?_;(case ho=>rfl);(case hg=>rfl);(case hn=>rfl);(case hr=>first|(go_simp;done)|(go_simp;rfl));intro w12 hw;have hg:wr.grownBy w12 (some go10):=(by rw [hw];exact HP11.2);have hp_:Sg .u32 97 pre_ suf_ w12 w0.heap.size (fun k_=>(P0_ k_∨w.heap.size≤k_)) (.slice (some ⟨go10,pre_.length,none⟩) x0_1.length co4) y148:=(by rw [hw,Ny148.out];exact HP11.1);clear HP11;replace HB:=aZ ((by rw [hw];exact below_set (HB.out) GB10.out:Below w0.heap.size w0 w12));replace HK:=aZ (Kept.of_grown (S:=(fun k_=>P0_ k_)) hg kw (fun k_ e_=>(HO_0.out.1 k_ e_)));replace HO_0:=aZ (hp_);clear hg hw hp_))
   (try simp only [← hl0_1])
   go_roundg k1
   case measure=>have:=HK1.out;omega
   case rel=>exact ⟨(y148),(IntKind.u64.wrap ((IntKind.u64.wrap (Int.tdiv (IntKind.u64.wrap (x7_1+(IntKind.u64.wrap (a2*(IntKind.u64.wrap (rd l1 x14_1)))))) 1000000000))+1)),(wrap64 (x14_1+1)),zs,zs,H',⟨by have:=HK1.out;omega⟩,⟨by (try simp only [hl0_1]);(with_reducible repeat (first|apply Sg.R_alloc|apply Sg.R_drewN|apply Sg.R_drew));exact HO_0.out⟩,⟨kw⟩,⟨bw⟩⟩
theorem Ys.callsS (pre_ suf_:List Int) (k:Nat) (P0_:Nat→Prop) (u9000_:Value) (l0:List Int) (A1:Option Addr) (c1:Nat) (l1:List Int) (r:List Int) (w0 w:World) (hB:Below w0.heap.size w0 w) (ho0:Sg .u32 97 pre_ suf_ w w0.heap.size P0_ u9000_ l0) (hr1:∀ W_,Kept w W_ (fun k_=>P0_ k_)→Kd.C (Kd.int .u32) W_ A1 l1.length l1) (hc1:l1.length≤c1) (h:Ys.f k l0 l1=some r) :
  Calls Tryz.prog 203 #[u9000_,.slice A1 l1.length c1] w fun e w'=>e = .returned (.tuple #[])∧Sg .u32 97 pre_ suf_ w' w0.heap.size (fun k_=>(P0_ k_∨w.heap.size≤k_)) u9000_ r∧Below w0.heap.size w0 w'∧Kept w w' (fun k_=>P0_ k_):=by
 have HO0:=aZ (show Sg .u32 97 pre_ suf_ w w0.heap.size (fun k_=>(P0_ k_∨w.heap.size≤k_)) u9000_ l0 from Sg.R_mono ho0 (fun k_ hk=>(.inl hk)))
 have HR1:=aZ hr1
 have HC1:=aZ hc1
 clear hr1 hc1
 have HK:=aZ (Kept.refl w (fun k_=>P0_ k_))
 have HW0:=aZ hB.size
 have HB:=aZ hB
 clear hB
 have H:(Ys.l0 k l0 l1 0 (l0.length:Int) 0)=some r:=h
 clear h
 have H':=aZ H
 clear H
 obtain ⟨Ao3,co3,eo3⟩:=Sg.R_slice HO0.out
 subst eo3
 go_enter func203,ntmps203
 go_wp2
 go_loopg [4,9] k (fun kq v4 v9 w'=>∃ (x0_1:List Int) (x4_1:Int) (x9_1:Int),v4 = .int .u32 x4_1∧v9 = .int .i64 x9_1∧Aside0 (Ys.l0 kq x0_1 l1 x4_1 (l0.length:Int) x9_1=some r)∧Aside0 (kq≤k)∧Aside0 (Sg .u32 97 pre_ suf_ w' w0.heap.size (fun k_=>(P0_ k_∨w.heap.size≤k_)) (.slice Ao3 l0.length co3) x0_1)∧Aside0 (Kept w w' (fun k_=>P0_ k_))∧Aside0 (Below w0.heap.size w0 w'))
 case atStart=>exact ⟨(l0),(0),(0),zs,zs,H',⟨Nat.le_refl _⟩,⟨by (with_reducible repeat (first|apply Sg.R_alloc|apply Sg.R_drewN|apply Sg.R_drew));exact HO0.out⟩,⟨kw⟩,⟨bw⟩⟩
 case round =>
  clear H'
  try clear c1
  try clear c2
  obtain ⟨x0_1,x4_1,x9_1,rfl,rfl,HA,HK1,HO_0,HK,HB⟩:=hrel
  have hl0_1:=(Sg.R_reads' HO_0.out).1
  rw [hl0_1] at HO_0
  (try simp only [hl0_1])
  cases gk with
  | zero=>exact absurd HA.out (by simp [Ys.l0])
  | succ k1 =>
   have H:=HA.out
   clear HA
   simp only [Ys.l0] at H
   by_cases c4:x9_1<(l0.length:Int)
   case neg=>
    rw [if_neg c4] at H
    have c4b0:=decide_eq_false c4
    (try (have c4b0_hl0_1:=c4b0;simp only [hl0_1] at c4b0_hl0_1))
    clear c4
    obtain rfl:=Option.some.inj H
    go_wp2
    first|go_end0|((try simp only [Exit.inBlock,Exit.then]);refine bodyPost_ret (results_none rfl _ _ _) rfl ?_)
    exact ⟨ze,(by first|exact (by (with_reducible repeat (first|apply Sg.R_alloc|apply Sg.R_drewN|apply Sg.R_drew));exact HO_0.out)|(simp only [hl0_1];exact (by (with_reducible repeat (first|apply Sg.R_alloc|apply Sg.R_drewN|apply Sg.R_drew));exact HO_0.out))),bw,kw⟩
   rw [if_pos c4] at H
   have c4b0:=decide_eq_true c4
   (try (have c4b0_hl0_1:=c4b0;simp only [hl0_1] at c4b0_hl0_1))
   clear c4
   by_cases c5:0≤x9_1
   case neg=>
    rw [if_neg c5] at H
    cases H
   rw [if_pos c5] at H
   have c5b0:=decide_eq_true c5
   clear c5
   by_cases c6:x9_1<(x0_1.length:Int)
   case neg=>
    rw [if_neg c6] at H
    cases H
   rw [if_pos c6] at H
   have c6b0:=decide_eq_true c6
   (try (have c6b0_hl0_1:=c6b0;simp only [hl0_1] at c6b0_hl0_1))
   clear c6
   by_cases c7:x9_1<(l1.length:Int)
   case neg=>
    rw [if_neg c7] at H
    have c7b0:=decide_eq_false c7
    (try (have c7b0_hl0_1:=c7b0;simp only [hl0_1] at c7b0_hl0_1))
    clear c7
    obtain ⟨y156,hy156⟩:∃ y_:List Int,y_=(x0_1.set (x9_1:Int).toNat ((((rd x0_1 x9_1)+x4_1)%4294967296)%1000000000)):=⟨_,rfl⟩
    replace H:(Ys.l0 k1 y156 l1 ((((rd x0_1 x9_1)+x4_1)%4294967296)/1000000000) (l0.length:Int) (wrap64 (x9_1+1)))=some r:=zy hy156 H
    have Ny156:=aZ hy156
    clear hy156
    have H':=aZ H
    clear H
    have p153:0≤(x9_1:Int):=zd
    have q153:x9_1<(x0_1.length:Int):=zd
    obtain ⟨ad153,e153,hx153_0⟩:=Kd.at_int (Sg.R_reads' HO_0.out).2.2 x9_1 p153 q153
    cases e153
    replace p153:=eq_true p153
    replace q153:=eq_true q153
    have p11:0≤(x9_1:Int):=zd
    have q11:(x9_1:Int)<((x0_1.length:Int):Int):=zd
    obtain ⟨go11,co11,eo11,gb11,gl11,cl11,HG11⟩:=Sg.R_form HO_0.out (by omega)
    (first|cases eo11|(injection eo11 with ea_ en_ ec_;(first|subst ea_|(injection ea_ with ea_;subst ea_));subst ec_;clear en_))
    have GB11:=aZ gb11
    have GG11:=aZ HG11
    clear gb11 gl11 HG11
    have HMgo11:=aZ (show (P0_ go11∨w.heap.size≤go11) from (HO_0.out.1 _ rfl))
    (first|simp only [Addr.add_lit] at hx153_0|skip)
    obtain ⟨hx11_0,hf11_0⟩:=Sg.R_celln 0 HO_0.out (x9_1:Int) p11 q11
    replace p11:=eq_true p11
    replace q11:=eq_true q11
    have HP12:=Sg.R_putg HO_0.out (x9_1:Int) (of_eq_true (by assumption)) (of_eq_true (by assumption)) ((((rd x0_1 x9_1)+x4_1)%4294967296)%1000000000)
    go_wp2_with (first|((with_reducible refine gate_store (t:=97) (p:=34) rfl ?_);refine store_event (t:=97) (p:=34) (v:=?vo_w13) (w1:=(wr.setCell ⟨go11,pre_.length+(x9_1:Int).toNat,none⟩ (.int .u32 ((((rd x0_1 x9_1)+x4_1)%4294967296)%1000000000)))) ?hg ?ho ?hn ?hr ?_;(case ho=>rfl);(case hg=>rfl);(case hn=>rfl);(case hr=>first|(go_simp;done)|(go_simp;rfl));intro w13 hw;have hg:wr.grownBy w13 (some go11):=(by rw [hw];exact HP12.2);have hp_:Sg .u32 97 pre_ suf_ w13 w0.heap.size (fun k_=>(P0_ k_∨w.heap.size≤k_)) (.slice (some ⟨go11,pre_.length,none⟩) x0_1.length co3) y156:=(by rw [hw,Ny156.out];exact HP12.1);clear HP12;replace HB:=aZ ((by rw [hw];exact below_set (HB.out) GB11.out:Below w0.heap.size w0 w13));replace HK:=aZ (Kept.of_grown (S:=(fun k_=>P0_ k_)) hg kw (fun k_ e_=>(HO_0.out.1 k_ e_)));replace HO_0:=aZ (hp_);clear hg hw hp_))
    (try simp only [← hl0_1])
    go_roundg k1
    case measure=>have:=HK1.out;omega
    case rel=>exact ⟨(y156),((((rd x0_1 x9_1)+x4_1)%4294967296)/1000000000),(wrap64 (x9_1+1)),zs,zs,H',⟨by have:=HK1.out;omega⟩,⟨by (try simp only [hl0_1]);(with_reducible repeat (first|apply Sg.R_alloc|apply Sg.R_drewN|apply Sg.R_drew));exact HO_0.out⟩,⟨kw⟩,⟨bw⟩⟩
   rw [if_pos c7] at H
   have c7b0:=decide_eq_true c7
   (try (have c7b0_hl0_1:=c7b0;simp only [hl0_1] at c7b0_hl0_1))
   clear c7
   obtain ⟨y155,hy155⟩:∃ y_:List Int,y_=(x0_1.set (x9_1:Int).toNat ((((((rd x0_1 x9_1)+x4_1)%4294967296)+(rd l1 x9_1))%4294967296)%1000000000)):=⟨_,rfl⟩
   replace H:(Ys.l0 k1 y155 l1 ((((((rd x0_1 x9_1)+x4_1)%4294967296)+(rd l1 x9_1))%4294967296)/1000000000) (l0.length:Int) (wrap64 (x9_1+1)))=some r:=zy hy155 H
   have Ny155:=aZ hy155
   clear hy155
   have H':=aZ H
   clear H
   have p153:0≤(x9_1:Int):=zd
   have q153:x9_1<(x0_1.length:Int):=zd
   obtain ⟨ad153,e153,hx153_0⟩:=Kd.at_int (Sg.R_reads' HO_0.out).2.2 x9_1 p153 q153
   cases e153
   replace p153:=eq_true p153
   replace q153:=eq_true q153
   have p154:0≤(x9_1:Int):=zd
   have q154:x9_1<(l1.length:Int):=zd
   obtain ⟨ad154,e154,hx154_0⟩:=Kd.at_int (Kd.C_kept_now HR1.out HK.out) x9_1 p154 q154
   cases e154
   replace p154:=eq_true p154
   replace q154:=eq_true q154
   have p8:0≤(x9_1:Int):=zd
   have q8:(x9_1:Int)<((x0_1.length:Int):Int):=zd
   obtain ⟨go8,co8,eo8,gb8,gl8,cl8,HG8⟩:=Sg.R_form HO_0.out (by omega)
   (first|cases eo8|(injection eo8 with ea_ en_ ec_;(first|subst ea_|(injection ea_ with ea_;subst ea_));subst ec_;clear en_))
   have GB8:=aZ gb8
   have GG8:=aZ HG8
   clear gb8 gl8 HG8
   have HMgo8:=aZ (show (P0_ go8∨w.heap.size≤go8) from (HO_0.out.1 _ rfl))
   (first|simp only [Addr.add_lit] at hx153_0|skip)
   obtain ⟨hx8_0,hf8_0⟩:=Sg.R_celln 0 HO_0.out (x9_1:Int) p8 q8
   replace p8:=eq_true p8
   replace q8:=eq_true q8
   have HP9:=Sg.R_putg HO_0.out (x9_1:Int) (of_eq_true (by assumption)) (of_eq_true (by assumption)) ((((((rd x0_1 x9_1)+x4_1)%4294967296)+(rd l1 x9_1))%4294967296)%1000000000)
   go_wp2_with (first|((with_reducible refine gate_store (t:=97) (p:=34) rfl ?_);refine store_event (t:=97) (p:=34) (v:=?vo_w10) (w1:=(wr.setCell ⟨go8,pre_.length+(x9_1:Int).toNat,none⟩ (.int .u32 ((((((rd x0_1 x9_1)+x4_1)%4294967296)+(rd l1 x9_1))%4294967296)%1000000000)))) ?hg ?ho ?hn ?hr ?_;(case ho=>rfl);(case hg=>rfl);(case hn=>rfl);(case hr=>first|(go_simp;done)|(go_simp;rfl));intro w10 hw;have hg:wr.grownBy w10 (some go8):=(by rw [hw];exact HP9.2);have hp_:Sg .u32 97 pre_ suf_ w10 w0.heap.size (fun k_=>(P0_ k_∨w.heap.size≤k_)) (.slice (some ⟨go8,pre_.length,none⟩) x0_1.length co3) y155:=(by rw [hw,Ny155.out];exact HP9.1);clear HP9;replace HB:=aZ ((by rw [hw];exact below_set (HB.out) GB8.out:Below w0.heap.size w0 w10));replace HK:=aZ (Kept.of_grown (S:=(fun k_=>P0_ k_)) hg kw (fun k_ e_=>(HO_0.out.1 k_ e_)));replace HO_0:=aZ (hp_);clear hg hw hp_))
   (try simp only [← hl0_1])
   go_roundg k1
   case measure=>have:=HK1.out;omega
   case rel=>exact ⟨(y155),((((((rd x0_1 x9_1)+x4_1)%4294967296)+(rd l1 x9_1))%4294967296)/1000000000),(wrap64 (x9_1+1)),zs,zs,H',⟨by have:=HK1.out;omega⟩,⟨by (try simp only [hl0_1]);(with_reducible repeat (first|apply Sg.R_alloc|apply Sg.R_drewN|apply Sg.R_drew));exact HO_0.out⟩,⟨kw⟩,⟨bw⟩⟩
theorem Ym.callsS (pre_ suf_:List Int) (k:Nat) (P0_:Nat→Prop) (u9000_:Value) (l0:List Int) (A1:Option Addr) (c1:Nat) (l1:List Int) (r1:Int) (r2:List Int) (w0 w:World) (hB:Below w0.heap.size w0 w) (ho0:Sg .u32 97 pre_ suf_ w w0.heap.size P0_ u9000_ l0) (hr1:∀ W_,Kept w W_ (fun k_=>P0_ k_)→Kd.C (Kd.int .u32) W_ A1 l1.length l1) (hc1:l1.length≤c1) (h:Ym.f k l0 l1=some (r1,r2)) :
  Calls Tryz.prog 180 #[u9000_,.slice A1 l1.length c1] w fun e w'=>e = .returned (.int .u64 r1)∧Sg .u32 97 pre_ suf_ w' w0.heap.size (fun k_=>(P0_ k_∨w.heap.size≤k_)) u9000_ r2∧Below w0.heap.size w0 w'∧Kept w w' (fun k_=>P0_ k_):=by
 have HO0:=aZ (show Sg .u32 97 pre_ suf_ w w0.heap.size (fun k_=>(P0_ k_∨w.heap.size≤k_)) u9000_ l0 from Sg.R_mono ho0 (fun k_ hk=>(.inl hk)))
 have HR1:=aZ hr1
 have HC1:=aZ hc1
 clear hr1 hc1
 have HK:=aZ (Kept.refl w (fun k_=>P0_ k_))
 have HW0:=aZ hB.size
 have HB:=aZ hB
 clear hB
 have H:(if 0≤(l1.length:Int) then (if (l1.length:Int)<(l0.length:Int) then (if 0≤(wrap64 ((l1.length:Int)-1)) then (if (wrap64 ((l1.length:Int)-1))<(l0.length:Int) then (if (wrap64 ((l1.length:Int)-1))<(l1.length:Int) then (if (IntKind.u64.wrap (rd l1 (wrap64 ((l1.length:Int)-1))))=0 then (none) else (Ym.l0 k l0 l1 (l1.length:Int) (mn (IntKind.u64.wrap (Int.tdiv (IntKind.u64.wrap ((IntKind.u64.wrap ((IntKind.u64.wrap (rd l0 (l1.length:Int)))*1000000000))+(IntKind.u64.wrap (rd l0 (wrap64 ((l1.length:Int)-1)))))) (IntKind.u64.wrap (rd l1 (wrap64 ((l1.length:Int)-1)))))) 999999999) (IntKind.u64.wrap ((IntKind.u64.wrap ((IntKind.u64.wrap ((IntKind.u64.wrap (rd l0 (l1.length:Int)))*1000000000))+(IntKind.u64.wrap (rd l0 (wrap64 ((l1.length:Int)-1))))))-(IntKind.u64.wrap ((mn (IntKind.u64.wrap (Int.tdiv (IntKind.u64.wrap ((IntKind.u64.wrap ((IntKind.u64.wrap (rd l0 (l1.length:Int)))*1000000000))+(IntKind.u64.wrap (rd l0 (wrap64 ((l1.length:Int)-1)))))) (IntKind.u64.wrap (rd l1 (wrap64 ((l1.length:Int)-1)))))) 999999999)*(IntKind.u64.wrap (rd l1 (wrap64 ((l1.length:Int)-1)))))))))) else (none)) else (none)) else (none)) else (none)) else (none))=some (r1,r2):=h
 clear h
 by_cases c3:0≤(l1.length:Int)
 case neg=>
  rw [if_neg c3] at H
  cases H
 rw [if_pos c3] at H
 have c3b0:=decide_eq_true c3
 have c3b1:decide (0≤l1.length)=true:=decide_eq_true (by omega)
 clear c3
 by_cases c4:(l1.length:Int)<(l0.length:Int)
 case neg=>
  rw [if_neg c4] at H
  cases H
 rw [if_pos c4] at H
 have c4b0:=decide_eq_true c4
 have c4b1:decide (l1.length<l0.length)=true:=decide_eq_true (Int.ofNat_lt.mp c4)
 clear c4
 obtain ⟨ji5,hji5⟩:∃ j_:Int,(wrap64 ((l1.length:Int)-1))=j_:=⟨_,rfl⟩
 (first|rw [hji5] at H|simp only [hji5] at H)
 have hji5w:(IntKind.i64.wrap ((l1.length:Int)-1))=ji5:=(i64_w _).trans hji5
 by_cases c6:0≤(ji5)
 case neg=>
  rw [if_neg c6] at H
  cases H
 rw [if_pos c6] at H
 have c6b0:=decide_eq_true c6
 clear c6
 by_cases c7:(ji5)<(l0.length:Int)
 case neg=>
  rw [if_neg c7] at H
  cases H
 rw [if_pos c7] at H
 have c7b0:=decide_eq_true c7
 clear c7
 by_cases c8:(ji5)<(l1.length:Int)
 case neg=>
  rw [if_neg c8] at H
  cases H
 rw [if_pos c8] at H
 have c8b0:=decide_eq_true c8
 clear c8
 by_cases c9:(IntKind.u64.wrap (rd l1 (ji5)))=0
 case neg=>
  rw [if_neg c9] at H
  obtain ⟨c9b0,c9b1⟩:=zX c9
  obtain ⟨ji10,hji10⟩:∃ j_:Int,(mn (IntKind.u64.wrap (Int.tdiv (IntKind.u64.wrap ((IntKind.u64.wrap ((IntKind.u64.wrap (rd l0 (l1.length:Int)))*1000000000))+(IntKind.u64.wrap (rd l0 (ji5))))) (IntKind.u64.wrap (rd l1 (ji5))))) 999999999)=j_:=⟨_,rfl⟩
  (first|rw [hji10] at H|simp only [hji10] at H)
  have hji10_:(if 999999999<(IntKind.u64.wrap (Int.tdiv (IntKind.u64.wrap ((IntKind.u64.wrap ((IntKind.u64.wrap (rd l0 (l1.length:Int)))*1000000000))+(IntKind.u64.wrap (rd l0 (ji5))))) (IntKind.u64.wrap (rd l1 (ji5))))) then 999999999 else (IntKind.u64.wrap (Int.tdiv (IntKind.u64.wrap ((IntKind.u64.wrap ((IntKind.u64.wrap (rd l0 (l1.length:Int)))*1000000000))+(IntKind.u64.wrap (rd l0 (ji5))))) (IntKind.u64.wrap (rd l1 (ji5))))))=ji10:=hji10
  have HC11:=aZ H
  clear H
  obtain ⟨Ao12,co12,eo12⟩:=Sg.R_slice HO0.out
  subst eo12
  have p157:0≤((l1.length:Int):Int):=zd
  have q157:(l1.length:Int)<(l0.length:Int):=zd
  obtain ⟨ad157,e157,hx157_0⟩:=Kd.at_int (Sg.R_reads' HO0.out).2.2 (l1.length:Int) p157 q157
  cases e157
  (try simp only [Go.IntWalk.toNatUp] at hx157_0)
  replace p157:=eq_true p157
  replace q157:=eq_true q157
  have p158:0≤((ji5):Int):=zd
  have q158:(ji5)<(l0.length:Int):=zd
  obtain ⟨ad158,e158,hx158_0⟩:=Kd.at_int (Sg.R_reads' HO0.out).2.2 (ji5) p158 q158
  obtain rfl:ad157=ad158:=(by injection e158)
  replace p158:=eq_true p158
  replace q158:=eq_true q158
  have p159:0≤((ji5):Int):=zd
  have q159:(ji5)<(l1.length:Int):=zd
  obtain ⟨ad159,e159,hx159_0⟩:=Kd.at_int (Kd.C_kept_now HR1.out HK.out) (ji5) p159 q159
  cases e159
  replace p159:=eq_true p159
  replace q159:=eq_true q159
  have p160:0≤((ji5):Int):=zd
  have q160:(ji5)<(l1.length:Int):=zd
  obtain ⟨ad160,e160,hx160_0⟩:=Kd.at_int (Kd.C_kept_now HR1.out HK.out) (ji5) p160 q160
  obtain rfl:ad159=ad160:=(by injection e160)
  replace p160:=eq_true p160
  replace q160:=eq_true q160
  go_enter func180,ntmps180
  go_upto_block 0 with (fail)
  repeat (go_quiet (fail);go_upto_block 0 with (fail))
  go_cut [7] (fun v7 wc=>∃ (kq:Nat) (x7_10:Int),v7 = .int .u64 x7_10∧Aside0 (Ym.j1 kq l0 l1 x7_10=some (r1,r2))∧Aside0 (kq≤k)∧Aside0 (Sg .u32 97 pre_ suf_ wc w0.heap.size (fun k_=>(P0_ k_∨w.heap.size≤k_)) (.slice (some ad157) l0.length co12) l0)∧Aside0 (Kept w wc (fun k_=>P0_ k_))∧Aside0 (Below w0.heap.size w0 wc))
  case first =>
   have H:=HC11.out
   clear HC11
   have H':=aZ H
   clear H
   go_wp2
   repeat (go_quiet (fail);try go_wp2)
   go_loopg [7,8] k (fun kq v7 v8 w'=>∃ (x7_1:Int) (x8_1:Int),v7 = .int .u64 x7_1∧v8 = .int .u64 x8_1∧Aside0 (Ym.l0 kq l0 l1 (l1.length:Int) x7_1 x8_1=some (r1,r2))∧Aside0 (kq≤k)∧Aside0 (Sg .u32 97 pre_ suf_ w' w0.heap.size (fun k_=>(P0_ k_∨w.heap.size≤k_)) (.slice (some ad157) l0.length co12) l0)∧Aside0 (Kept w w' (fun k_=>P0_ k_))∧Aside0 (Below w0.heap.size w0 w'))
   case atStart=>exact ⟨(ji10),(IntKind.u64.wrap ((IntKind.u64.wrap ((IntKind.u64.wrap ((IntKind.u64.wrap (rd l0 (l1.length:Int)))*1000000000))+(IntKind.u64.wrap (rd l0 (ji5)))))-(IntKind.u64.wrap ((ji10)*(IntKind.u64.wrap (rd l1 (ji5))))))),(by first|rfl|(simp;done)|(simp only [← hji10] <;> (first|rfl|simp))|(simp [*];done)),(by first|rfl|(simp;done)|(simp only [← hji5,← hji10] <;> (first|rfl|simp))|(simp [*];done)),H',⟨Nat.le_refl _⟩,⟨by (with_reducible repeat (first|apply Sg.R_alloc|apply Sg.R_drewN|apply Sg.R_drew));exact HO0.out⟩,⟨kw⟩,⟨bw⟩⟩
   case round =>
    clear H'
    try clear c1
    try clear q1
    try clear hx1
    try clear c3
    try clear c3b0
    try clear c3b1
    try clear c4
    try clear c4b0
    try clear c4b1
    try clear c6
    try clear c6b0
    try clear c7
    try clear c7b0
    try clear c8
    try clear c8b0
    try clear c9
    try clear c9b0
    try clear c9b1
    try clear hx157_0
    try clear hx158_0
    try clear hx159_0
    try clear hx160_0
    try clear q157
    try clear q158
    try clear q159
    try clear q160
    obtain ⟨x7_1,x8_1,rfl,rfl,HA,HK1,HO_0,HK,HB⟩:=hrel
    cases gk with
    | zero=>exact absurd HA.out (by simp [Ym.l0])
    | succ k1 =>
     have H:=HA.out
     clear HA
     simp only [Ym.l0] at H
     by_cases c13:x8_1<1000000000
     case neg=>
      rw [if_neg c13] at H
      have c13b0:=decide_eq_false c13
      clear c13
      (first|rw [c13b0]|(simp only [i64_w,i32_w];rw [c13b0])|skip)
      have H':=aZ H
      clear H
      go_wp2
      repeat (go_quiet (fail);try go_wp2)
      go_meet
      case rel=>exact ⟨_,(x7_1),zs,H',⟨by have:=HK1.out;first|omega|exact Nat.le_refl _⟩,⟨by (with_reducible repeat (first|apply Sg.R_alloc|apply Sg.R_drewN|apply Sg.R_drew));exact HO_0.out⟩,⟨kw⟩,⟨bw⟩⟩
     rw [if_pos c13] at H
     have c13b0:=decide_eq_true c13
     clear c13
     (first|rw [c13b0]|(simp only [i64_w,i32_w];rw [c13b0])|skip)
     obtain ⟨ji14,hji14⟩:∃ j_:Int,(wrap64 ((l1.length:Int)-2))=j_:=⟨_,rfl⟩
     (first|rw [hji14] at H|simp only [hji14] at H)
     have hji14w:(IntKind.i64.wrap ((l1.length:Int)-2))=ji14:=(i64_w _).trans hji14
     by_cases c15:0≤(ji14)
     case neg=>
      rw [if_neg c15] at H
      cases H
     rw [if_pos c15] at H
     have c15b0:=decide_eq_true c15
     clear c15
     by_cases c16:(ji14)<(l1.length:Int)
     case neg=>
      rw [if_neg c16] at H
      cases H
     rw [if_pos c16] at H
     have c16b0:=decide_eq_true c16
     clear c16
     by_cases c17:(ji14)<(l0.length:Int)
     case neg=>
      rw [if_neg c17] at H
      cases H
     rw [if_pos c17] at H
     have c17b0:=decide_eq_true c17
     clear c17
     by_cases c18:(IntKind.u64.wrap (x7_1*(IntKind.u64.wrap (rd l1 (ji14)))))>(IntKind.u64.wrap ((IntKind.u64.wrap (x8_1*1000000000))+(IntKind.u64.wrap (rd l0 (ji14)))))
     case neg=>
      rw [if_neg c18] at H
      have c18b0:=decide_eq_false c18
      clear c18
      have H':=aZ H
      clear H
      have p161:0≤((ji14):Int):=zd
      have q161:(ji14)<(l1.length:Int):=zd
      obtain ⟨ad161,e161,hx161_0⟩:=Kd.at_int (Kd.C_kept_now HR1.out HK.out) (ji14) p161 q161
      obtain rfl:ad159=ad161:=(by injection e161)
      replace p161:=eq_true p161
      replace q161:=eq_true q161
      have p162:0≤((ji14):Int):=zd
      have q162:(ji14)<(l0.length:Int):=zd
      obtain ⟨ad162,e162,hx162_0⟩:=Kd.at_int (Sg.R_reads' HO_0.out).2.2 (ji14) p162 q162
      obtain rfl:ad157=ad162:=(by injection e162)
      replace p162:=eq_true p162
      replace q162:=eq_true q162
      go_wp2
      repeat (go_quiet (fail);try go_wp2)
      go_meet
      case rel=>exact ⟨_,(x7_1),zs,H',⟨by have:=HK1.out;first|omega|exact Nat.le_refl _⟩,⟨by (with_reducible repeat (first|apply Sg.R_alloc|apply Sg.R_drewN|apply Sg.R_drew));exact HO_0.out⟩,⟨kw⟩,⟨bw⟩⟩
     rw [if_pos c18] at H
     have c18b0:=decide_eq_true c18
     clear c18
     obtain ⟨ji19,hji19⟩:∃ j_:Int,(wrap64 ((l1.length:Int)-1))=j_:=⟨_,rfl⟩
     (first|rw [hji19] at H|simp only [hji19] at H)
     (try clear hji5w)
     (try clear hji5)
     have hji19w:(IntKind.i64.wrap ((l1.length:Int)-1))=ji19:=(i64_w _).trans hji19
     by_cases c20:0≤(ji19)
     case neg=>
      rw [if_neg c20] at H
      cases H
     rw [if_pos c20] at H
     have c20b0:=decide_eq_true c20
     clear c20
     by_cases c21:(ji19)<(l1.length:Int)
     case neg=>
      rw [if_neg c21] at H
      cases H
     rw [if_pos c21] at H
     have c21b0:=decide_eq_true c21
     clear c21
     have H':=aZ H
     clear H
     have p161:0≤((ji14):Int):=zd
     have q161:(ji14)<(l1.length:Int):=zd
     obtain ⟨ad161,e161,hx161_0⟩:=Kd.at_int (Kd.C_kept_now HR1.out HK.out) (ji14) p161 q161
     obtain rfl:ad159=ad161:=(by injection e161)
     replace p161:=eq_true p161
     replace q161:=eq_true q161
     have p162:0≤((ji14):Int):=zd
     have q162:(ji14)<(l0.length:Int):=zd
     obtain ⟨ad162,e162,hx162_0⟩:=Kd.at_int (Sg.R_reads' HO_0.out).2.2 (ji14) p162 q162
     obtain rfl:ad157=ad162:=(by injection e162)
     replace p162:=eq_true p162
     replace q162:=eq_true q162
     have p163:0≤((ji19):Int):=zd
     have q163:(ji19)<(l1.length:Int):=zd
     obtain ⟨ad163,e163,hx163_0⟩:=Kd.at_int (Kd.C_kept_now HR1.out HK.out) (ji19) p163 q163
     obtain rfl:ad159=ad163:=(by injection e163)
     replace p163:=eq_true p163
     replace q163:=eq_true q163
     go_wp2
     repeat (go_quiet (fail);try go_wp2)
     go_roundg k1
     case measure=>have:=HK1.out;omega
     case rel=>exact ⟨(IntKind.u64.wrap (x7_1-1)),(IntKind.u64.wrap (x8_1+(IntKind.u64.wrap (rd l1 (ji19))))),zs,(by first|rfl|(simp;done)|(simp only [← hji19] <;> (first|rfl|simp))|(simp [*];done)),H',⟨by have:=HK1.out;omega⟩,⟨by (with_reducible repeat (first|apply Sg.R_alloc|apply Sg.R_drewN|apply Sg.R_drew));exact HO_0.out⟩,⟨kw⟩,⟨bw⟩⟩
  case rest =>
   clear HC11
   try clear c1
   try clear q1
   try clear hx1
   try clear c2
   try clear c3
   try clear c3b0
   try clear c3b1
   try clear c4
   try clear c4b0
   try clear c4b1
   try clear c6
   try clear c6b0
   try clear c7
   try clear c7b0
   try clear c8
   try clear c8b0
   try clear c9
   try clear c9b0
   try clear c9b1
   try clear c13
   try clear c13b0
   try clear c15
   try clear c15b0
   try clear q15
   try clear hx15
   try clear c16
   try clear c16b0
   try clear q16
   try clear hx16
   try clear c17
   try clear c17b0
   try clear c18
   try clear c18b0
   try clear c20
   try clear c20b0
   try clear c21
   try clear c21b0
   try clear hx157_0
   try clear hx158_0
   try clear hx159_0
   try clear hx160_0
   try clear hx161_0
   try clear hx162_0
   try clear hx163_0
   try clear q1
   try clear q157
   try clear q158
   try clear q159
   try clear q160
   try clear q161
   try clear q162
   try clear q163
   obtain ⟨kq,x7_10,rfl,HA,HJ10,HO_0,HK,HB⟩:=hcut
   cases kq with
   | zero=>exact absurd HA.out (by simp [Ym.j1])
   | succ kj10 =>
    have H:=HA.out
    clear HA
    simp only [Ym.j1] at H
    obtain ⟨⟨t164,t165⟩,A22,H⟩:=zB H
    (try dsimp only at H)
    by_cases c23:t164=true
    case neg=>
     replace c23:=Bool.eq_false_iff.mpr c23
     subst c23
     have H1:(some (x7_10,t165))=some (r1,r2):=by rw [if_neg (show ¬ (false=true) by decide)] at H;exact H
     clear H
     have H:=H1
     clear H1
     simp only [Option.some.injEq,Prod.mk.injEq] at H
     obtain ⟨rfl,rfl⟩:=H
     go_wp2_with (first|(go_at_call 202;(with_reducible refine (Yp.callsS pre_ suf_ kj10 (fun k_=>some k_=(.slice (some ad157) l0.length co12:Value).ownBlock) (.slice (some ad157) l0.length co12) l0 _ _ l1 x7_10 false t165 w0 _ ?side1 ?side2 ?side3 ?side4 A22.out).mono ?_);(case side1=>exact bw);(case side2=>exact Sg.R_tight HO_0.out);(case side3=>exact Kd.C_kept_call HR1.out kw (fun k_ hs_=>(fun e_=>(HO_0.out.1 k_ e_.symm)) hs_));(case side4=>exact HC1.out);rintro e w27 ⟨rfl,hy0,hb,hkp⟩;replace HK:=aZ (Kept.then_ (S:=(fun k_=>P0_ k_)) kw hkp (fun k_ hs_=>(fun e_=>(HO_0.out.1 k_ e_.symm)) hs_));replace HO_0:=aZ (Sg.R_reok hy0 (fun k_ e_=>HO_0.out.1 k_ e_));replace HB:=aZ (hb);clear hb))
     repeat (go_quiet (first|(go_at_call 202;(with_reducible refine (Yp.callsS pre_ suf_ kj10 (fun k_=>some k_=(.slice (some ad157) l0.length co12:Value).ownBlock) (.slice (some ad157) l0.length co12) l0 _ _ l1 x7_10 false t165 w0 _ ?side1 ?side2 ?side3 ?side4 A22.out).mono ?_);(case side1=>exact bw);(case side2=>exact Sg.R_tight HO_0.out);(case side3=>exact Kd.C_kept_call HR1.out kw (fun k_ hs_=>(fun e_=>(HO_0.out.1 k_ e_.symm)) hs_));(case side4=>exact HC1.out);rintro e w27 ⟨rfl,hy0,hb,hkp⟩;replace HK:=aZ (Kept.then_ (S:=(fun k_=>P0_ k_)) kw hkp (fun k_ hs_=>(fun e_=>(HO_0.out.1 k_ e_.symm)) hs_));replace HO_0:=aZ (Sg.R_reok hy0 (fun k_ e_=>HO_0.out.1 k_ e_));replace HB:=aZ (hb);clear hb));try go_wp2_with (first|(go_at_call 202;(with_reducible refine (Yp.callsS pre_ suf_ kj10 (fun k_=>some k_=(.slice (some ad157) l0.length co12:Value).ownBlock) (.slice (some ad157) l0.length co12) l0 _ _ l1 x7_10 false t165 w0 _ ?side1 ?side2 ?side3 ?side4 A22.out).mono ?_);(case side1=>exact bw);(case side2=>exact Sg.R_tight HO_0.out);(case side3=>exact Kd.C_kept_call HR1.out kw (fun k_ hs_=>(fun e_=>(HO_0.out.1 k_ e_.symm)) hs_));(case side4=>exact HC1.out);rintro e w27 ⟨rfl,hy0,hb,hkp⟩;replace HK:=aZ (Kept.then_ (S:=(fun k_=>P0_ k_)) kw hkp (fun k_ hs_=>(fun e_=>(HO_0.out.1 k_ e_.symm)) hs_));replace HO_0:=aZ (Sg.R_reok hy0 (fun k_ e_=>HO_0.out.1 k_ e_));replace HB:=aZ (hb);clear hb)))
     go_ret
     exact ⟨by first|rfl|(simp [errW_none,errW_some] <;> rfl)|(simp only [← hji5,← hji10];first|rfl|(simp [errW_none,errW_some] <;> rfl))|(simp [*,errW_none,errW_some] <;> rfl),by (with_reducible repeat (first|apply Sg.R_alloc|apply Sg.R_drewN|apply Sg.R_drew));exact HO_0.out,bw,kw⟩
    subst c23
    have H1:((Ys.f kj10 t165 l1).bind fun t166=>(some (IntKind.u64.wrap (x7_10-1),t166)))=some (r1,r2):=by rw [if_pos rfl] at H;exact H
    clear H
    have H:=H1
    clear H1
    obtain ⟨t166,A24,H⟩:=zB H
    simp only [Option.some.injEq,Prod.mk.injEq] at H
    obtain ⟨rfl,rfl⟩:=H
    go_wp2_with (first|(go_at_call 202;(with_reducible refine (Yp.callsS pre_ suf_ kj10 (fun k_=>some k_=(.slice (some ad157) l0.length co12:Value).ownBlock) (.slice (some ad157) l0.length co12) l0 _ _ l1 x7_10 true t165 w0 _ ?side1 ?side2 ?side3 ?side4 A22.out).mono ?_);(case side1=>exact bw);(case side2=>exact Sg.R_tight HO_0.out);(case side3=>exact Kd.C_kept_call HR1.out kw (fun k_ hs_=>(fun e_=>(HO_0.out.1 k_ e_.symm)) hs_));(case side4=>exact HC1.out);rintro e w25 ⟨rfl,hy0,hb,hkp⟩;replace HK:=aZ (Kept.then_ (S:=(fun k_=>P0_ k_)) kw hkp (fun k_ hs_=>(fun e_=>(HO_0.out.1 k_ e_.symm)) hs_));replace HO_0:=aZ (Sg.R_reok hy0 (fun k_ e_=>HO_0.out.1 k_ e_));replace HB:=aZ (hb);clear hb)|(go_at_call 203;(with_reducible refine (Ys.callsS pre_ suf_ kj10 (fun k_=>some k_=(.slice (some ad157) l0.length co12:Value).ownBlock) (.slice (some ad157) l0.length co12) t165 _ _ l1 t166 w0 _ ?side1 ?side2 ?side3 ?side4 A24.out).mono ?_);(case side1=>exact bw);(case side2=>exact Sg.R_tight HO_0.out);(case side3=>exact Kd.C_kept_call HR1.out kw (fun k_ hs_=>(fun e_=>(HO_0.out.1 k_ e_.symm)) hs_));(case side4=>exact HC1.out);rintro e w26 ⟨rfl,hy0,hb,hkp⟩;replace HK:=aZ (Kept.then_ (S:=(fun k_=>P0_ k_)) kw hkp (fun k_ hs_=>(fun e_=>(HO_0.out.1 k_ e_.symm)) hs_));replace HO_0:=aZ (Sg.R_reok hy0 (fun k_ e_=>HO_0.out.1 k_ e_));replace HB:=aZ (hb);clear hb))
    repeat (go_quiet (first|(go_at_call 202;(with_reducible refine (Yp.callsS pre_ suf_ kj10 (fun k_=>some k_=(.slice (some ad157) l0.length co12:Value).ownBlock) (.slice (some ad157) l0.length co12) l0 _ _ l1 x7_10 true t165 w0 _ ?side1 ?side2 ?side3 ?side4 A22.out).mono ?_);(case side1=>exact bw);(case side2=>exact Sg.R_tight HO_0.out);(case side3=>exact Kd.C_kept_call HR1.out kw (fun k_ hs_=>(fun e_=>(HO_0.out.1 k_ e_.symm)) hs_));(case side4=>exact HC1.out);rintro e w25 ⟨rfl,hy0,hb,hkp⟩;replace HK:=aZ (Kept.then_ (S:=(fun k_=>P0_ k_)) kw hkp (fun k_ hs_=>(fun e_=>(HO_0.out.1 k_ e_.symm)) hs_));replace HO_0:=aZ (Sg.R_reok hy0 (fun k_ e_=>HO_0.out.1 k_ e_));replace HB:=aZ (hb);clear hb)|(go_at_call 203;(with_reducible refine (Ys.callsS pre_ suf_ kj10 (fun k_=>some k_=(.slice (some ad157) l0.length co12:Value).ownBlock) (.slice (some ad157) l0.length co12) t165 _ _ l1 t166 w0 _ ?side1 ?side2 ?side3 ?side4 A24.out).mono ?_);(case side1=>exact bw);(case side2=>exact Sg.R_tight HO_0.out);(case side3=>exact Kd.C_kept_call HR1.out kw (fun k_ hs_=>(fun e_=>(HO_0.out.1 k_ e_.symm)) hs_));(case side4=>exact HC1.out);rintro e w26 ⟨rfl,hy0,hb,hkp⟩;replace HK:=aZ (Kept.then_ (S:=(fun k_=>P0_ k_)) kw hkp (fun k_ hs_=>(fun e_=>(HO_0.out.1 k_ e_.symm)) hs_));replace HO_0:=aZ (Sg.R_reok hy0 (fun k_ e_=>HO_0.out.1 k_ e_));replace HB:=aZ (hb);clear hb));try go_wp2_with (first|(go_at_call 202;(with_reducible refine (Yp.callsS pre_ suf_ kj10 (fun k_=>some k_=(.slice (some ad157) l0.length co12:Value).ownBlock) (.slice (some ad157) l0.length co12) l0 _ _ l1 x7_10 true t165 w0 _ ?side1 ?side2 ?side3 ?side4 A22.out).mono ?_);(case side1=>exact bw);(case side2=>exact Sg.R_tight HO_0.out);(case side3=>exact Kd.C_kept_call HR1.out kw (fun k_ hs_=>(fun e_=>(HO_0.out.1 k_ e_.symm)) hs_));(case side4=>exact HC1.out);rintro e w25 ⟨rfl,hy0,hb,hkp⟩;replace HK:=aZ (Kept.then_ (S:=(fun k_=>P0_ k_)) kw hkp (fun k_ hs_=>(fun e_=>(HO_0.out.1 k_ e_.symm)) hs_));replace HO_0:=aZ (Sg.R_reok hy0 (fun k_ e_=>HO_0.out.1 k_ e_));replace HB:=aZ (hb);clear hb)|(go_at_call 203;(with_reducible refine (Ys.callsS pre_ suf_ kj10 (fun k_=>some k_=(.slice (some ad157) l0.length co12:Value).ownBlock) (.slice (some ad157) l0.length co12) t165 _ _ l1 t166 w0 _ ?side1 ?side2 ?side3 ?side4 A24.out).mono ?_);(case side1=>exact bw);(case side2=>exact Sg.R_tight HO_0.out);(case side3=>exact Kd.C_kept_call HR1.out kw (fun k_ hs_=>(fun e_=>(HO_0.out.1 k_ e_.symm)) hs_));(case side4=>exact HC1.out);rintro e w26 ⟨rfl,hy0,hb,hkp⟩;replace HK:=aZ (Kept.then_ (S:=(fun k_=>P0_ k_)) kw hkp (fun k_ hs_=>(fun e_=>(HO_0.out.1 k_ e_.symm)) hs_));replace HO_0:=aZ (Sg.R_reok hy0 (fun k_ e_=>HO_0.out.1 k_ e_));replace HB:=aZ (hb);clear hb)))
    go_ret
    exact ⟨by first|rfl|(simp [errW_none,errW_some] <;> rfl)|(simp only [← hji5,← hji10];first|rfl|(simp [errW_none,errW_some] <;> rfl))|(simp [*,errW_none,errW_some] <;> rfl),by (with_reducible repeat (first|apply Sg.R_alloc|apply Sg.R_drewN|apply Sg.R_drew));exact HO_0.out,bw,kw⟩
 rw [if_pos c9] at H
 cases H
-- NOT PRINTED: function 144 (Yn)
def Yn.lp (K:Nat) (v:List Int):Nat→List Int→List Int→Option (List Int×List Int)
 | 0,u,out=>some (u,out)
 | j+1,u,out=>(Ym.f K ((u.take (j+v.length+1)).drop j) v).bind fun t=>Yn.lp K v j (u.take j++(t.2++u.drop (j+v.length+1))) (out.set j (t.1%4294967296))
def Yn.f (k:Nat) (l0:List Int) (l1:List Int):Option (List Int×List Int) :=
 if l0.length<1099511627776∧l1.length<1099511627776 then (Yw.f k l0 l1).bind fun c =>
  if c<0 then (YC.f l0).bind fun q=>some ([],q)
  else if l1.length=1 then (Yj.f k l0 (IntKind.u64.wrap (rd l1 0))).bind fun t=>(Yt.f k t.2).bind fun q=>some (t.1,q)
  else if 2≤l1.length∧l1.length≤l0.length∧0≤rd l1 ((l1.length-1:Nat):Int)∧rd l1 ((l1.length-1:Nat):Int)<4294967296 then
   (Yk.f k l0 (1000000000/(rd l1 ((l1.length-1:Nat):Int)+1)) ((l0.length+1:Nat):Int)).bind fun u =>
   (Yk.f k l1 (1000000000/(rd l1 ((l1.length-1:Nat):Int)+1)) (l1.length:Int)).bind fun v =>
   if u.length=l0.length+1∧v.length=l1.length then
    (Yn.lp k v (l0.length-l1.length+1) u (List.replicate (l0.length-l1.length+1) 0)).bind fun z =>
    (Yf.f k (z.1.take v.length)).bind fun tr=>(Yj.f k tr (1000000000/(rd l1 ((l1.length-1:Nat):Int)+1))).bind fun t =>
    (Yf.f k z.2).bind fun q=>some (q,t.1)
   else none
  else none
 else none
theorem Yn.mono_lp (k:Nat) (v:List Int):∀ j u out,LeO (Yn.lp k v j u out) (Yn.lp (k+1) v j u out)
 | 0,u,out=>LeO.refl _
 | j+1,u,out=>LeO.bind (Ym.mono _ _ k) (fun _=>Yn.mono_lp k v j _ _)
theorem Yn.mono:∀ a0 a1 k,LeO (Yn.f k a0 a1) (Yn.f (k+1) a0 a1):=by
 intro a0 a1 k
 unfold Yn.f
 refine LeO.ite (LeO.bind (Yw.mono _ _ k) fun c=>LeO.ite (LeO.refl _) (LeO.ite (LeO.bind (Yj.mono _ _ k) fun _=>LeO.bind (Yt.mono _ k) fun _=>LeO.refl _) (LeO.ite ?_ (LeO.none _)))) (LeO.none _)
 refine LeO.bind (Yk.mono _ _ _ k) fun u=>LeO.bind (Yk.mono _ _ _ k) fun v=>LeO.ite ?_ (LeO.none _)
 exact LeO.bind (Yn.mono_lp k v _ _ _) fun _=>LeO.bind (Yf.mono _ k) fun _=>LeO.bind (Yj.mono _ _ k) fun _=>LeO.bind (Yf.mono _ k) fun _=>LeO.refl _
theorem Yn.less_ (k:Nat) (A0:Option Addr) (c0:Nat) (l0:List Int) (A1:Option Addr) (c1:Nat) (l1:List Int) (c:Int) (r2:List Int) (w:World) (hr0:Kd.C (Kd.int .u32) w A0 l0.length l0) (hc0:l0.length≤c0) (hr1:Kd.C (Kd.int .u32) w A1 l1.length l1) (hc1:l1.length≤c1) (hc:Yw.f k l0 l1=some c) (hlt:c<0) (hq:YC.f l0=some r2) :
  Calls Tryz.prog 144 #[.slice A0 l0.length c0,.slice A1 l1.length c1] w fun e w'=>∃ v0_ v1_:Value,e = .returned (.tuple #[v0_,v1_])∧Kd.V (Kd.int .u32) 97 w' w.heap.size (fun k_=>(w.heap.size≤k_)) v0_ []∧Kd.V (Kd.int .u32) 97 w' w.heap.size (fun k_=>(w.heap.size≤k_)) v1_ r2∧Below w.heap.size w w':=by
 have hcmp:=fun (W:World) (h0:Kd.C (Kd.int .u32) W A0 l0.length l0) (h1:Kd.C (Kd.int .u32) W A1 l1.length l1)=>Yw.calls k A0 c0 l0 A1 c1 l1 c W h0 hc0 h1 hc1 hc
 have hcl:=fun (W:World) (h0:Kd.C (Kd.int .u32) W A0 l0.length l0)=>YC.calls A0 c0 l0 r2 W h0 hc0 hq
 have HR0:=aZ hr0
 have HR1:=aZ hr1
 have c3b0:decide (c<0)=true:=decide_eq_true hlt
 have HB:=aZ (Below.refl w.heap.size w)
 clear hr0 hr1 hc0 hc1 hc hlt hq
 go_enter func144,ntmps144
 go_wp2_with (first
  | (go_at_call 153;(with_reducible refine (hcmp _ ?s1 ?s2).mono ?_);(case s1=>exact HR0.out);(case s2=>exact HR1.out);clear hcmp;rintro e w' ⟨rfl,⟨nd,rfl⟩⟩;have HB1:=aZ (pw_below_drewN HB.out nd))
  | (go_at_call 143;(with_reducible refine (hcl _ ?s3).mono ?_);(case s3=>exact Kd.C_drewN HR0.out _);clear hcl;rintro e w' ⟨v1,rfl,hv,hb⟩;have HV:=aZ hv;have HB2:=aZ (below_step HB1.out hb);clear hv hb))
 go_ret2
 exact ⟨_,_,rfl,Kd.V_nil _ _ _ _ _,Kd.V_mono (Kd.R_V (Kd.R_bound HV.out)) (fun _ hk=>hk.2.1),HB2.out⟩
theorem Yn.one_ (k:Nat) (A0:Option Addr) (c0:Nat) (l0:List Int) (A1:Option Addr) (c1:Nat) (l1:List Int) (c:Int) (r1 r2:List Int) (rr:Int) (w:World) (hr0:Kd.C (Kd.int .u32) w A0 l0.length l0) (hc0:l0.length≤c0) (hr1:Kd.C (Kd.int .u32) w A1 l1.length l1) (hc1:l1.length≤c1) (hc:Yw.f k l0 l1=some c) (hlt:¬ c<0) (h1:l1.length=1) (hs:Yj.f k l0 (IntKind.u64.wrap (rd l1 0))=some (r1,rr)) (hq:Yt.f k rr=some r2) :
  Calls Tryz.prog 144 #[.slice A0 l0.length c0,.slice A1 l1.length c1] w fun e w'=>∃ v0_ v1_:Value,e = .returned (.tuple #[v0_,v1_])∧Kd.V (Kd.int .u32) 97 w' w.heap.size (fun k_=>(w.heap.size≤k_)) v0_ r1∧Kd.V (Kd.int .u32) 97 w' w.heap.size (fun k_=>(w.heap.size≤k_)) v1_ r2∧Below w.heap.size w w':=by
 have hcmp:=fun (W:World) (h0:Kd.C (Kd.int .u32) W A0 l0.length l0) (h1:Kd.C (Kd.int .u32) W A1 l1.length l1)=>Yw.calls k A0 c0 l0 A1 c1 l1 c W h0 hc0 h1 hc1 hc
 have hsh:=fun (W:World) (h0:Kd.C (Kd.int .u32) W A0 l0.length l0)=>Yj.calls k A0 c0 l0 _ r1 rr W h0 hc0 hs
 have hof:=fun (W:World)=>Yt.calls k rr r2 W hq
 obtain ⟨ad,rfl,hx⟩:=Kd.at_int hr1 0 (by omega) (by omega)
 rw [show ad.add (Int.toNat 0)=ad from by simp [Addr.add]] at hx
 have HR0:=aZ hr0
 have HR1:=aZ hr1
 have c3b0:decide (c<0)=false:=decide_eq_false hlt
 have c4b0:((l1.length:Int)==1)=true:=by rw [h1];rfl
 have p0:((0:Int)<(l1.length:Int))=True:=eq_true (by omega)
 have p1:(0<l1.length)=True:=eq_true (by omega)
 have HB:=aZ (Below.refl w.heap.size w)
 clear hr0 hr1 hc0 hc1 hc hlt hq hs h1
 go_enter func144,ntmps144
 go_wp2_with (first
  | (go_at_call 153;(with_reducible refine (hcmp _ ?s1 ?s2).mono ?_);(case s1=>exact HR0.out);(case s2=>exact HR1.out);clear hcmp;rintro e w' ⟨rfl,⟨nd,rfl⟩⟩;have HB1:=aZ (pw_below_drewN HB.out nd))
  | (go_at_call 178;(with_reducible refine (hsh _ ?s3).mono ?_);(case s3=>exact Kd.C_drewN HR0.out _);clear hsh;rintro e w' ⟨v1,rfl,hv,hb⟩;have HV1:=aZ hv;have HB2:=aZ (below_step HB1.out hb);clear hv hb)
  | (go_at_call 136;(with_reducible refine (hof _).mono ?_);clear hof;rintro e w' ⟨v2,rfl,hv,hb⟩;have HV2:=aZ hv;have HB3:=aZ (below_step HB2.out hb);have HV3:=aZ (Kd.V_below HV1.out hb);clear hv hb))
 go_ret2
 exact ⟨_,_,rfl,HV3.out,Kd.V_mono (Kd.R_V (Kd.R_bound HV2.out)) (fun _ hk=>Nat.le_trans HB2.out.size hk.2.1),HB3.out⟩
theorem Sg.back_R {k:IntKind} {e g lo hi n n' cap base:Nat} {w:World} {ok:Nat→Prop} {ys xs:List Int} (h:Sg k e (ys.take lo) (ys.drop hi) w base ok (.slice (some ⟨g,lo,none⟩) n' (cap-lo)) xs) (h1:lo<hi) (h2:hi≤ys.length) (h3:ys.length≤cap) (hn':n'=hi-lo) (hn:n=ys.length) :
  xs.length=hi-lo∧(ys.take lo++(xs++ys.drop hi)).length=ys.length∧Kd.R (Kd.int k) e w base ok (.slice (some ⟨g,0,none⟩) n cap) (ys.take lo++(xs++ys.drop hi)):=by
 have hl:=(Sg.R_reads' h).1
 have el:(ys.take lo).length=lo:=by rw [List.length_take];omega
 have hxl:xs.length=hi-lo:=by omega
 have hle:(ys.take lo++(xs++ys.drop hi)).length=ys.length:=by simp only [List.length_append,List.length_drop,el,hxl];omega
 refine ⟨hxl,hle,?_⟩
 have h':Sg k e (ys.take lo) (ys.drop hi) w base ok (.slice (some ⟨g,(ys.take lo).length,none⟩) n' (cap-(ys.take lo).length)) xs:=by rw [el];exact h
 have:=Sg.to_R (c:=0) h' (by omega) (by omega)
 rw [hle] at this
 rw [hn];exact this
theorem blk_lt_of {k:IntKind} {e g n cap base:Nat} {w:World} {ok:Nat→Prop} {xs:List Int} (h:Kd.R (Kd.int k) e w base ok (.slice (some ⟨g,0,none⟩) n cap) xs):g<w.heap.size:=own_lt (Kd.own_of_R h) g rfl
theorem Yn.big_ (k:Nat) (A0:Option Addr) (c0:Nat) (l0:List Int) (A1:Option Addr) (c1:Nat) (l1:List Int) (c by_:Int) (u v z1 z2 tr q t1:List Int) (t2:Int) (w:World) (hr0:Kd.C (Kd.int .u32) w A0 l0.length l0) (hc0:l0.length≤c0) (hr1:Kd.C (Kd.int .u32) w A1 l1.length l1) (hc1:l1.length≤c1) (hc:Yw.f k l0 l1=some c) (hlt:¬ c<0)
  (hn2:2≤l1.length) (hle:l1.length≤l0.length) (hbig:l0.length<1099511627776) (ht0:0≤rd l1 ((l1.length-1:Nat):Int)) (ht1:rd l1 ((l1.length-1:Nat):Int)<4294967296) (hby:1000000000/(rd l1 ((l1.length-1:Nat):Int)+1)=by_)
  (hu:Yk.f k l0 by_ ((l0.length+1:Nat):Int)=some u) (hv:Yk.f k l1 by_ (l1.length:Int)=some v) (hul:u.length=l0.length+1) (hvl:v.length=l1.length)
  (hlp:Yn.lp k v (l0.length-l1.length+1) u (List.replicate (l0.length-l1.length+1) 0)=some (z1,z2)) (htr:Yf.f k (z1.take v.length)=some tr) (hsh:Yj.f k tr by_=some (t1,t2)) (hq:Yf.f k z2=some q) :
  Calls Tryz.prog 144 #[.slice A0 l0.length c0,.slice A1 l1.length c1] w fun e w'=>∃ v0_ v1_:Value,e = .returned (.tuple #[v0_,v1_])∧Kd.V (Kd.int .u32) 97 w' w.heap.size (fun k_=>(w.heap.size≤k_)) v0_ q∧Kd.V (Kd.int .u32) 97 w' w.heap.size (fun k_=>(w.heap.size≤k_)) v1_ t1∧Below w.heap.size w w':=by
 have hcmp:=fun (W:World) (h0:Kd.C (Kd.int .u32) W A0 l0.length l0) (h1:Kd.C (Kd.int .u32) W A1 l1.length l1)=>Yw.calls k A0 c0 l0 A1 c1 l1 c W h0 hc0 h1 hc1 hc
 obtain ⟨j1,hj1⟩:∃ j:Int,wrap64 ((l1.length:Int)-1)=j:=⟨_,rfl⟩
 have ej1:j1=((l1.length-1:Nat):Int):=by rw [← hj1];unfold wrap64;omega
 obtain ⟨ad,rfl,hx⟩:=Kd.at_int hr1 j1 (by omega) (by omega)
 obtain ⟨tp,htp⟩:∃ t:Int,rd l1 j1=t:=⟨_,rfl⟩
 rw [← ej1,htp] at ht0 ht1 hby
 rw [htp] at hx
 have hw1:IntKind.u64.wrap tp=tp:=by rw [IntKind.wrap_u64];omega
 obtain ⟨tp1,htp1⟩:∃ t:Int,IntKind.u64.wrap (tp+1)=t:=⟨_,rfl⟩
 have etp1:tp1=tp+1:=by rw [← htp1,IntKind.wrap_u64];omega
 have hb0:0≤by_:=by rw [← hby];exact Int.ediv_nonneg (by omega) (by omega)
 have hb1:by_≤1000000000:=by rw [← hby];exact Int.ediv_le_self _ (by omega)
 have hw2:IntKind.u64.wrap (Int.tdiv 1000000000 tp1)=by_:=by
  rw [Int.tdiv_eq_ediv_of_nonneg (by omega),etp1,hby,IntKind.wrap_u64];omega
 have hz1:(tp1==0)=false:=beq_eq_false_iff_ne.mpr (by omega)
 have hz2:¬ tp1=0:=by omega
 obtain ⟨n1,hn1⟩:∃ j:Int,wrap64 ((l0.length:Int)+1)=j:=⟨_,rfl⟩
 have en1:n1=((l0.length+1:Nat):Int):=by rw [← hn1];unfold wrap64;omega
 obtain ⟨d1,hd1⟩:∃ j:Int,wrap64 ((l0.length:Int)-(l1.length:Int))=j:=⟨_,rfl⟩
 have ed1:d1=((l0.length-l1.length:Nat):Int):=by rw [← hd1];unfold wrap64;omega
 obtain ⟨d2,hd2⟩:∃ j:Int,wrap64 (d1+1)=j:=⟨_,rfl⟩
 have ed2:d2=((l0.length-l1.length+1:Nat):Int):=by rw [← hd2];unfold wrap64;omega
 obtain ⟨o0,ho0⟩:∃ o:List Int,o=List.replicate d2.toNat 0:=⟨_,rfl⟩
 have ho0l:o0.length=l0.length-l1.length+1:=by rw [ho0,List.length_replicate];omega
 obtain ⟨k0,hk0⟩:∃ j:Int,wrap64 ((o0.length:Int)-1)=j:=⟨_,rfl⟩
 have ek0:k0=((l0.length-l1.length+1:Nat):Int)-1:=by rw [← hk0];unfold wrap64;omega
 rw [← en1] at hu
 have hlp':Yn.lp k v (l0.length-l1.length+1) u o0=some (z1,z2):=by
  rw [ho0,show d2.toNat=l0.length-l1.length+1 by omega];exact hlp
 have hsc1:=fun (W:World) (h0:Kd.C (Kd.int .u32) W A0 l0.length l0)=>Yk.calls k A0 c0 l0 by_ n1 u W h0 hc0 hu
 have hsc2:=fun (W:World) (h0:Kd.C (Kd.int .u32) W (some ad) l1.length l1)=>Yk.calls k (some ad) c1 l1 by_ (l1.length:Int) v W h0 hc1 hv
 have hj1w:IntKind.i64.wrap ((l1.length:Int)-1)=j1:=(i64_w _).trans hj1
 have hn1w:IntKind.i64.wrap ((l0.length:Int)+1)=n1:=(i64_w _).trans hn1
 have hd1w:IntKind.i64.wrap ((l0.length:Int)-(l1.length:Int))=d1:=(i64_w _).trans hd1
 have hd2w:IntKind.i64.wrap (d1+1)=d2:=(i64_w _).trans hd2
 have hk0w:IntKind.i64.wrap ((o0.length:Int)-1)=k0:=(i64_w _).trans hk0
 have p1:(0≤j1)=True:=eq_true (by omega)
 have p2:(j1<(l1.length:Int))=True:=eq_true (by omega)
 have p3:(0≤d2):=by omega
 have p4:d2.toNat≤1099511627776:=by omega
 have c3b0:decide (c<0)=false:=decide_eq_false hlt
 have c4b0:((l1.length:Int)==1)=false:=beq_eq_false_iff_ne.mpr (by omega)
 have HR0:=aZ hr0
 have HR1:=aZ hr1
 have HUL:=aZ hul
 have HVL:=aZ hvl
 have HN2:=aZ hn2
 have HLE:=aZ hle
 have HBIG:=aZ hbig
 have HLP:=aZ hlp'
 have HTR:=aZ htr
 have HSH:=aZ hsh
 have HQ:=aZ hq
 have HO0:=aZ ho0
 have HO0L:=aZ ho0l
 have HK0:=aZ ek0
 have P3:=aZ p3
 have P4:=aZ p4
 have HB:=aZ (Below.refl w.heap.size w)
 clear hr0 hr1 hc0 hc1 hc hlt hu hv hul hvl hn2 hle hbig hlp hlp' htr hsh hq ho0 ho0l ek0 ed2 ed1 en1 etp1 hb0 hb1 ht0 ht1 hby htp ej1 p3 p4
 go_enter func144,ntmps144
 go_wp2_with (first
  | (go_at_call 153;(with_reducible refine (hcmp _ ?s1 ?s2).mono ?_);(case s1=>exact HR0.out);(case s2=>exact HR1.out);clear hcmp;rintro e w' ⟨rfl,⟨nd,rfl⟩⟩;have HB1:=aZ (pw_below_drewN HB.out nd);have HS0:=aZ (Kd.C_drewN HR0.out nd);have HS1:=aZ (Kd.C_drewN HR1.out nd))
  | (go_at_call 179;(with_reducible refine (hsc1 _ ?s3).mono ?_);(case s3=>exact HS0.out);clear hsc1;rintro e wu ⟨vu,rfl,hv,hb⟩;have HU:=aZ (Kd.R_tight rfl hv);have HB2:=aZ (below_step HB1.out hb);have HS2:=aZ (Kd.C_below HS1.out hb);clear hv hb)
  | (go_at_call 179;(with_reducible refine (hsc2 _ ?s4).mono ?_);(case s4=>exact HS2.out);clear hsc2;rintro e wv ⟨vv,rfl,hv,hb⟩;have HV:=aZ (Kd.R_tight rfl hv);have HB3:=aZ (below_step HB2.out hb);have HU3:=aZ (Kd.R_below HU.out hb);clear hv hb)
  | ((with_reducible refine gate_dst (N:=64) rfl ?_);refine Kd.R_make (Kd.int .u32) _ 97 rfl (N:=64) rfl 101 _ _ rfl d2 rfl rfl underlying101 (.int .u32 0) 4 info97 rfl (by decide) (by omega) 0 (ok:=fun _=>True) (okp:=fun _=>True) rfl (fun _ hk=>hk) trivial P3.out (Nat.le_trans (Nat.mul_le_mul_right _ P4.out) (by omega)) (Below.refl _ _) (Nat.le_refl _) ?_;intro vo wo hv hb hg_ hnew_;clear hg_ hnew_;rw [← HO0.out] at hv;have HO:=aZ (Kd.R_tight rfl hv);have HB4:=aZ (below_step HB3.out hb);have HU4:=aZ (Kd.R_below HU3.out hb);have HV4:=aZ (Kd.R_below HV.out hb);clear hv hb;obtain ⟨gu,cu,eu,gu1,gu2,_,_⟩:=Kd.R_form HU4.out (by have:=HUL.out;omega);obtain ⟨gv,cv,ev,gv1,gv2,_,_⟩:=Kd.R_form HV4.out (by have:=HVL.out;have:=HN2.out;omega);obtain ⟨go,co,eo,go1,go2,_,_⟩:=Kd.R_form HO.out (by have:=HO0L.out;omega);subst eu ev eo;have gu2':=blk_lt_of HU.out;have gv2':=blk_lt_of HV.out))
 have HUx:=aZ (Kd.R_mono (ok':=fun b=>b=gu) (Kd.R_lower HU4.out (base':=w.heap.size) (by exact Nat.le_refl _)) (fun b hb=>by injection hb))
 have HVx:=aZ (Kd.R_mono (ok':=fun b=>b=gv) (Kd.R_lower HV4.out (base':=w.heap.size) HB2.out.size) (fun b hb=>by injection hb))
 have HOx:=aZ (Kd.R_mono (ok':=fun b=>b=go) (Kd.R_lower HO.out (base':=w.heap.size) HB3.out.size) (fun b hb=>by injection hb))
 have N1:=aZ (show gu≠gv by omega)
 have N2:=aZ (show gu≠go by omega)
 have N3:=aZ (show gv≠go by omega)
 have G1:=aZ (show w.heap.size≤gu from gu1)
 have G3:=aZ (show w.heap.size≤go from Nat.le_trans HB3.out.size go1)
 clear HU HU3 HU4 HV HV4 HO HB1 HB2 HB3 HS0 HS1 HS2 gu1 gu2 gv1 gv2 go1 go2 gu2' gv2' hx hw1 htp1 hw2 hz1 hz2
 go_loopg [12] (l0.length-l1.length+1) (fun kq v12 w'=>∃ (j:Nat) (x o:List Int),v12 = .int .i64 ((j:Int)-1)∧Aside0 (Yn.lp k v j x o=some (z1,z2))∧Aside0 (j≤kq)∧Aside0 (j≤l0.length-l1.length+1∧x.length=l0.length+1∧o.length=l0.length-l1.length+1)∧Aside0 (Kd.R (Kd.int .u32) 97 w' w.heap.size (fun b=>b=gu) (.slice (some ⟨gu,0,none⟩) u.length cu) x)∧Aside0 (Kd.R (Kd.int .u32) 97 w' w.heap.size (fun b=>b=gv) (.slice (some ⟨gv,0,none⟩) v.length cv) v)∧Aside0 (Kd.R (Kd.int .u32) 97 w' w.heap.size (fun b=>b=go) (.slice (some ⟨go,0,none⟩) o0.length co) o)∧Aside0 (Below w.heap.size w w'))
 case atStart=>exact ⟨l0.length-l1.length+1,u,o0,congrArg (Value.int .i64) HK0.out,HLP,⟨Nat.le_refl _⟩,⟨Nat.le_refl _,HUL.out,HO0L.out⟩,HUx,HVx,HOx,HB4⟩
 case round =>
  obtain ⟨j,x,o,rfl,HL,HQ1,HX,HU,HV,HO,HB⟩:=hrel
  clear HLP HUx HVx HOx HB4
  cases j with
  | zero =>
   have hz:=HL.out
   simp only [Yn.lp,Option.some.injEq,Prod.mk.injEq] at hz
   obtain ⟨rfl,rfl⟩:=hz
   clear HL
   obtain ⟨y,hy⟩:∃ y:List Int,y=x.take v.length:=⟨_,rfl⟩
   have hvx:v.length≤x.length:=by have:=HX.out;have:=HVL.out;have:=HLE.out;omega
   have hyl:y.length=v.length:=by rw [hy,List.length_take];omega
   have hcu:u.length≤cu:=(Kd.R_reads' HU.out).2.1
   have hco:o0.length≤co:=(Kd.R_reads' HO.out).2.1
   have hux:u.length=x.length:=(Kd.R_reads' HU.out).1
   have hox:o0.length=o.length:=(Kd.R_reads' HO.out).1
   obtain ⟨i0,hi0,_,hsz0,_⟩:=info_parts info97
   have hcut:=cut_to (P:=Tryz.prog) 101 97 .i64 underlying101 hi0 (some ⟨gu,0,none⟩) u.length cu (v.length:Int) (by omega) (by omega) hcu
   rw [Int.toNat_natCast] at hcut
   replace hcut:∀ W:World,(Instr.slice 101 (.slice (some ⟨gu,0,none⟩) u.length cu) none (some (.int .i64 (v.length:Int))) none).run Tryz.prog W = .ok (.slice (some ⟨gu,0,none⟩) y.length cu) W:=by rw [hyl];exact hcut
   have htr:=HTR.out
   rw [← hy] at htr
   have HY:=aZ (Kd.R_take HU.out hvx)
   rw [← hy,← hyl] at HY
   rw [hox]
   have hHOc:=HO.out
   rw [hox] at hHOc
   have HO:=aZ hHOc
   have htrim1:=fun (W:World) (h0:Kd.V (Kd.int .u32) 97 W W.heap.size (fun b=>b=gu) (.slice (some ⟨gu,0,none⟩) y.length cu) y)=>Yf.calls k (fun b=>b=gu) (some ⟨gu,0,none⟩) cu y tr W h0 htr
   have htrim2:=fun (W:World) (h0:Kd.V (Kd.int .u32) 97 W W.heap.size (fun b=>b=go) (.slice (some ⟨go,0,none⟩) o.length co) o)=>Yf.calls k (fun b=>b=go) (some ⟨go,0,none⟩) co o q W h0 HQ.out
   have hshort:=fun (A:Option Addr) (c:Nat) (W:World) (h0:Kd.C (Kd.int .u32) W A tr.length tr) (h1:tr.length≤c)=>Yj.calls k A c tr by_ t1 t2 W h0 h1 HSH.out
   clear hi0 hsz0 hy hyl hvx hcu hco hux hox htr hHOc hj1 hn1 hd1 hd2 hk0 hj1w hn1w hd1w hd2w hk0w p1 p2
   go_wp2_with (first
    | (go_at_call 147;(with_reducible refine (htrim1 _ ?s5).mono ?_);(case s5=>exact Kd.R_V HY.out);clear htrim1;rintro e w5 ⟨v5,rfl,hv,hb⟩;obtain ⟨A5,c5,e5⟩:=Kd.V_slice hv;subst e5;have HT:=aZ hv;have HB5:=aZ (below_step HB.out hb);have HO5:=aZ (Kd.R_below HO.out hb);clear hv hb)
    | (go_at_call 178;(with_reducible refine (hshort _ _ _ ?s6 ?s7).mono ?_);(case s6=>exact (Kd.V_reads' HT.out).2.2);(case s7=>exact zk HT);clear hshort;rintro e w6 ⟨v6,rfl,hv,hb⟩;have HS:=aZ hv;have HB6:=aZ (below_step HB5.out hb);have HO6:=aZ (Kd.R_below HO5.out hb);clear hv hb)
    | (go_at_call 147;(with_reducible refine (htrim2 _ ?s8).mono ?_);(case s8=>exact Kd.R_V HO6.out);clear htrim2;rintro e w7 ⟨v7,rfl,hv,hb⟩;have HT7:=aZ hv;have HB7:=aZ (below_step HB6.out hb);have HS7:=aZ (Kd.V_below HS.out hb);clear hv hb))
   go_ret2
   refine ⟨_,_,rfl,Kd.V_mono HT7.out (fun b hb=>?_),Kd.V_mono HS7.out (fun b hb=>Nat.le_trans HB5.out.size hb),HB7.out⟩
   rcases hb with hb|hb
   ·rw [hb];exact G3.out
   ·exact Nat.le_trans HB6.out.size hb
  | succ j =>
   have ej:(((j+1:Nat):Int)-1)=(j:Int):=by omega
   rw [ej]
   have hl:=HL.out
   simp only [Yn.lp] at hl
   obtain ⟨⟨r1,r2⟩,hd,hl⟩:=Option.bind_eq_some_iff.1 hl
   dsimp only at hl
   clear HL
   have hX:=HX.out
   have hvl:=HVL.out
   have hn2:=HN2.out
   have hle:=HLE.out
   have hbg:=HBIG.out
   have hjx:j+v.length+1≤x.length:=by omega
   obtain ⟨S,hS⟩:∃ S:List Int,S=(x.take (j+v.length+1)).drop j:=⟨_,rfl⟩
   have hSl:S.length=v.length+1:=by rw [hS,List.length_drop,List.length_take];omega
   rw [← hS] at hd
   obtain ⟨s1,hs1⟩:∃ s:Int,wrap64 ((j:Int)+(v.length:Int))=s:=⟨_,rfl⟩
   have es1:s1=((j+v.length:Nat):Int):=by rw [← hs1];unfold wrap64;omega
   obtain ⟨s2,hs2⟩:∃ s:Int,wrap64 (s1+1)=s:=⟨_,rfl⟩
   have es2:s2=((j+v.length+1:Nat):Int):=by rw [← hs2];unfold wrap64;omega
   have hs1w:IntKind.i64.wrap ((j:Int)+(v.length:Int))=s1:=(i64_w _).trans hs1
   have hs2w:IntKind.i64.wrap (s1+1)=s2:=(i64_w _).trans hs2
   have hcu:u.length≤cu:=(Kd.R_reads' HU.out).2.1
   have hco:o0.length≤co:=(Kd.R_reads' HO.out).2.1
   have hcv:v.length≤cv:=(Kd.R_reads' HV.out).2.1
   have hux:u.length=x.length:=(Kd.R_reads' HU.out).1
   have hox:o0.length=o.length:=(Kd.R_reads' HO.out).1
   obtain ⟨i0,hi0,_,hsz0,_⟩:=info_parts info97
   have hcut:=cut_mid (P:=Tryz.prog) 101 97 .i64 .i64 underlying101 hi0 1 hsz0 (some ⟨gu,0,none⟩) u.length cu (j:Int) s2 (by omega) (by omega) (by omega) hcu
   replace hcut:∀ W:World,(Instr.slice 101 (.slice (some ⟨gu,0,none⟩) u.length cu) (some (.int .i64 (j:Int))) (some (.int .i64 s2)) none).run Tryz.prog W = .ok (.slice (some ⟨gu,j,none⟩) S.length (cu-j)) W:=by
    intro W
    rw [hcut W,if_neg (by omega),Int.toNat_natCast,Nat.mul_one,Option.map_some,add_plain,show s2.toNat-j=S.length by omega]
   have hSg:=aZ (Sg.of_R HU.out (show j≤j+v.length+1 by omega) hjx)
   rw [← hS,show j+v.length+1-j=S.length by omega] at hSg
   have hdig:=fun (W:World) (hB:Below w.heap.size w W) (h0:Sg .u32 97 (x.take j) (x.drop (j+v.length+1)) W w.heap.size (fun b=>b=gu) (.slice (some ⟨gu,j,none⟩) S.length (cu-j)) S) (hv:∀ W_,Kept W W_ (fun b=>b=gu)→Kd.C (Kd.int .u32) W_ (some ⟨gv,0,none⟩) v.length v)=>Ym.callsS (x.take j) (x.drop (j+v.length+1)) k (fun b=>b=gu) _ S (some ⟨gv,0,none⟩) cv v r1 r2 w W hB h0 hv hcv hd
   have HJX:=aZ hjx
   have HSL:=aZ hSl
   have HCU:=aZ hcu
   have HUX:=aZ hux
   have HL:=aZ hl
   have q1:((j:Int)<(o0.length:Int))=True:=eq_true (by omega)
   have q2:(j<o0.length)=True:=eq_true (by omega)
   have hj40:(j:Int)≤1099511627776:=by omega
   have hj41:(0:Int)≤(j:Int):=by omega
   clear hi0 hsz0 hS hSl hd hX hvl hn2 hle hbg hjx es1 es2 hcu hco hux hox hl hj1 hn1 hd1 hd2 hk0 hj1w hn1w hd1w hd2w hk0w p1 p2
   go_wp2_with (first
    | (go_at_call 180;(with_reducible refine (hdig _ ?s5 ?s6 ?s7).mono ?_);(case s5=>exact HB.out);(case s6=>exact hSg.out);(case s7=>exact Kd.C_kept_own HV.out (fun b hb hg=>N1.out (hg.symm.trans hb)));clear hdig;rintro e wd ⟨rfl,hsg,hb,hkp⟩;have HD:=aZ (Sg.back_R (n:=u.length) hsg (by omega) HJX.out (by have:=HCU.out;have:=HUX.out;omega) (by have:=HSL.out;omega) HUX.out);have HB5:=aZ hb;have HO5:=aZ (Kd.R_kept HO.out hkp (fun b hb hg=>N2.out (hg.symm.trans hb)));have HV5:=aZ (Kd.R_kept HV.out hkp (fun b hb hg=>N1.out (hg.symm.trans hb)));clear hsg hb hkp;obtain ⟨hx5,hf5⟩:=Kd.R_celln 0 HO5.out (j:Int) hj41 (of_eq_true q1);rw [Int.toNat_natCast] at hx5 hf5)
    | fail)
   obtain ⟨hrl,hxl,hU⟩:=HD.out
   obtain ⟨hO,hg⟩:=Kd.R_putg HO5.out (j:Int) (r1%4294967296)
   rw [Int.toNat_natCast] at hO hg
   have hU':=Kd.R_mono (ok':=fun b=>b=gu) (Kd.R_tight rfl hU) (fun b hb=>by injection hb)
   have HU2:=aZ (Kd.R_grown hU' hg (fun b hb he=>N2.out (by injection he with he;exact hb.symm.trans he)))
   have HV2:=aZ (Kd.R_grown HV5.out hg (fun b hb he=>N3.out (by injection he with he;exact hb.symm.trans he)))
   have HO2:=aZ hO
   have HB2:=aZ (below_set (j:=j) (v:=.int .u32 (r1%4294967296)) HB5.out G3.out)
   have HX2:=aZ (show j≤l0.length-l1.length+1∧(x.take j++(r2++x.drop (j+v.length+1))).length=l0.length+1∧(o.set j (r1%4294967296)).length=l0.length-l1.length+1 from ⟨by have:=HX.out;omega,by rw [hxl];exact HX.out.2.1,by rw [List.length_set];exact HX.out.2.2⟩)
   clear hU hU' hO hg hxl hrl
   go_roundg j
   case measure=>have:=HQ1.out;omega
   case rel=>exact ⟨j,_,_,rfl,HL,⟨Nat.le_refl _⟩,HX2,HU2,HV2,HO2,HB2⟩
set_option maxHeartbeats 2000000 in
theorem Yn.calls (k:Nat) (A0:Option Addr) (c0:Nat) (l0:List Int) (A1:Option Addr) (c1:Nat) (l1:List Int) (r1:List Int) (r2:List Int) (w:World) (hr0:Kd.C (Kd.int .u32) w A0 l0.length l0) (hc0:l0.length≤c0) (hr1:Kd.C (Kd.int .u32) w A1 l1.length l1) (hc1:l1.length≤c1) (h:Yn.f k l0 l1=some (r1,r2)) :
  Calls Tryz.prog 144 #[.slice A0 l0.length c0,.slice A1 l1.length c1] w fun e w'=>∃ v0_ v1_:Value,e = .returned (.tuple #[v0_,v1_])∧Kd.V (Kd.int .u32) 97 w' w.heap.size (fun k_=>(w.heap.size≤k_)) v0_ r1∧Kd.V (Kd.int .u32) 97 w' w.heap.size (fun k_=>(w.heap.size≤k_)) v1_ r2∧Below w.heap.size w w':=by
 unfold Yn.f at h
 by_cases hl:l0.length<1099511627776∧l1.length<1099511627776
 case neg=>rw [if_neg hl] at h;cases h
 rw [if_pos hl] at h
 obtain ⟨c,hc,h⟩:=Option.bind_eq_some_iff.1 h
 by_cases hlt:c<0
 ·rw [if_pos hlt] at h
  obtain ⟨q,hq,h⟩:=Option.bind_eq_some_iff.1 h
  simp only [Option.some.injEq,Prod.mk.injEq] at h
  obtain ⟨rfl,rfl⟩:=h
  exact Yn.less_ k A0 c0 l0 A1 c1 l1 c _ w hr0 hc0 hr1 hc1 hc hlt hq
 rw [if_neg hlt] at h
 by_cases h1:l1.length=1
 ·rw [if_pos h1] at h
  obtain ⟨⟨t,rr⟩,ht,h⟩:=Option.bind_eq_some_iff.1 h
  obtain ⟨q,hq,h⟩:=Option.bind_eq_some_iff.1 h
  simp only [Option.some.injEq,Prod.mk.injEq] at h
  obtain ⟨rfl,rfl⟩:=h
  exact Yn.one_ k A0 c0 l0 A1 c1 l1 c _ _ rr w hr0 hc0 hr1 hc1 hc hlt h1 ht hq
 rw [if_neg h1] at h
 by_cases h2:2≤l1.length∧l1.length≤l0.length∧0≤rd l1 ((l1.length-1:Nat):Int)∧rd l1 ((l1.length-1:Nat):Int)<4294967296
 case neg=>rw [if_neg h2] at h;cases h
 rw [if_pos h2] at h
 obtain ⟨u,hu,h⟩:=Option.bind_eq_some_iff.1 h
 obtain ⟨v,hv,h⟩:=Option.bind_eq_some_iff.1 h
 by_cases h3:u.length=l0.length+1∧v.length=l1.length
 case neg=>rw [if_neg h3] at h;cases h
 rw [if_pos h3] at h
 obtain ⟨⟨z1,z2⟩,hz,h⟩:=Option.bind_eq_some_iff.1 h
 obtain ⟨tr,htr,h⟩:=Option.bind_eq_some_iff.1 h
 obtain ⟨⟨t1,t2⟩,ht,h⟩:=Option.bind_eq_some_iff.1 h
 obtain ⟨q,hq,h⟩:=Option.bind_eq_some_iff.1 h
 simp only [Option.some.injEq,Prod.mk.injEq] at h
 obtain ⟨rfl,rfl⟩:=h
 exact Yn.big_ k A0 c0 l0 A1 c1 l1 c _ u v z1 z2 tr _ _ t2 w hr0 hc0 hr1 hc1 hc hlt h2.1 h2.2.1 hl.1 h2.2.2.1 h2.2.2.2 rfl hu hv h3.1 h3.2 hz htr ht hq
end
end Go.Proofs.YtaffkbemjbfajaaGreatDoor.PNumReads
