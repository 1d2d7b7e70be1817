-- By a program of this session: functions as plain Lean functions, each with its proof over the machine.
import Derived.Test.YtaffkbemjbfajaaGreatDoorPNumMultipliersx0
import Derived.Test.YtaffkbemjbfajaaGreatDoorPNumMultipliersx2
import Derived.Test.YtaffkbemjbfajaaGreatDoorPNumMultipliersx1
namespace Go.Proofs.YtaffkbemjbfajaaGreatDoor.PNumMultipliers
open Go.RowKit Go.Proofs.Tryz Go.Proofs.YtaffkbemjbfajaaGreatDoorW.PrintWords Go.Proofs.YtaffkbemjbfajaaGreatDoorW.PrintLast Go.Proofs.YtaffkbemjbfajaaGreatDoorW.PrintMore
attribute [local go_sem] max2_int min2_int max_two min_two max_three min_three max_four min_four
set_option linter.unusedVariables false
set_option linter.unusedSimpArgs false
set_option maxHeartbeats 8000000
set_option maxRecDepth 100000
section
def Y2.bs (k:Nat) (b r:List Int):Nat→Int→Int→Option Int
 | 0,_,_=>none
 | m+1,lo,hi=>if lo<hi then (Y5.f k ((lo+hi+1)/2)).bind fun t=>(Y1.f k b t).bind fun p=>(Y9.f k p r).bind fun c=>if c≤0 then Y2.bs k b r m ((lo+hi+1)/2) hi else Y2.bs k b r m lo ((lo+hi+1)/2-1) else some lo
def Y2.lp (k:Nat) (a b:List Int):Nat→List Int→List Int→Option (List Int×List Int)
 | 0,r,q=>some (q,r)
 | i+1,r,q=>(YS.f r).bind fun r'=>(Y3.f k (rd a (i:Int) :: r')).bind fun r1=>(Y2.bs k b r1 10000 0 9999).bind fun low =>
  if low > 0 then (Y5.f k low).bind fun t=>(Y1.f k b t).bind fun p=>(Ya.f k r1 p (-1)).bind fun r2=>Y2.lp k a b i r2 (low :: q)
  else Y2.lp k a b i r1 (low :: q)
def Y2.f (k:Nat) (l0:List Int) (l1:List Int):Option (List Int×List Int) :=
 if l0.length<1000000000∧l1.length<1000000000 then (Y9.f k l0 l1).bind fun c =>
  if c<0 then some ([],l0)
  else if 1≤l1.length∧l1.length≤l0.length then (YS.f (l0.drop (l0.length-l1.length+1))).bind fun r'=>(Y3.f k r').bind fun r0 =>
   (Y2.lp k l0 l1 (l0.length-l1.length+1) r0 []).bind fun z=>(Y3.f k z.1).bind fun q=>some (q,z.2)
  else none
 else none
theorem Y2.mono_bs (k:Nat) (b r:List Int):∀ m lo hi,LeO (Y2.bs k b r m lo hi) (Y2.bs (k+1) b r m lo hi)
 | 0,_,_=>LeO.refl _
 | m+1,lo,hi=>LeO.ite (LeO.bind (Y5.mono _ k) fun _=>LeO.bind (Y1.mono _ _ k) fun _=>LeO.bind (Y9.mono _ _ k) fun _=>LeO.ite (Y2.mono_bs k b r m _ _) (Y2.mono_bs k b r m _ _)) (LeO.refl _)
theorem Y2.mono_lp (k:Nat) (a b:List Int):∀ i r q,LeO (Y2.lp k a b i r q) (Y2.lp (k+1) a b i r q)
 | 0,_,_=>LeO.refl _
 | i+1,r,q=>LeO.bind (LeO.refl _) fun _=>LeO.bind (Y3.mono _ k) fun _=>LeO.bind (Y2.mono_bs k b _ _ _ _) fun _=>LeO.ite (LeO.bind (Y5.mono _ k) fun _=>LeO.bind (Y1.mono _ _ k) fun _=>LeO.bind (Ya.mono _ _ _ k) fun _=>Y2.mono_lp k a b i _ _) (Y2.mono_lp k a b i _ _)
theorem Y2.less_ (k:Nat) (P0_:Nat→Prop) (A0:Option Addr) (c0:Nat) (l0:List Int) (A1:Option Addr) (c1:Nat) (l1:List Int) (c:Int) (w:World) (hs0:Kd.V (Kd.int .i64) 3 w w.heap.size (fun k_=>P0_ k_) (.slice A0 l0.length c0) l0) (hr1:Kd.C (Kd.int .i64) w A1 l1.length l1) (hc1:l1.length≤c1) (hc:Y9.f k l0 l1=some c) (hlt:c<0) :
  Calls Tryz.prog 134 #[.slice A0 l0.length c0,.slice A1 l1.length c1] w fun e w'=>∃ v0_ v1_:Value,e = .returned (.tuple #[v0_,v1_])∧Kd.V (Kd.int .i64) 3 w' w.heap.size (fun k_=>(P0_ k_∨w.heap.size≤k_)) v0_ []∧Kd.V (Kd.int .i64) 3 w' w.heap.size (fun k_=>(P0_ k_∨w.heap.size≤k_)) v1_ l0∧Below w.heap.size w w':=by
 have hcmp:=fun (W:World) (h0:Kd.C (Kd.int .i64) W A0 l0.length l0) (h1:Kd.C (Kd.int .i64) W A1 l1.length l1)=>Y9.calls k A0 c0 l0 A1 c1 l1 c W h0 (Kd.V_reads' hs0).2.1 h1 hc1 hc
 have HS0:=aZ hs0
 have HR1:=aZ hr1
 have c3b0:decide (c<0)=true:=decide_eq_true hlt
 have HB:=aZ (Below.refl w.heap.size w)
 clear hs0 hr1 hc1 hc hlt
 go_enter func134,ntmps134
 go_wp2_with (first
  | (go_at_call 120;(with_reducible refine (hcmp _ ?s1 ?s2).mono ?_);(case s1=>exact (Kd.V_reads' HS0.out).2.2);(case s2=>exact HR1.out);clear hcmp;rintro e w' ⟨rfl,⟨nd,rfl⟩⟩;have HB1:=aZ (pw_below_drewN HB.out nd))
  | fail)
 go_ret2
 exact ⟨_,_,rfl,Kd.V_nil _ _ _ _ _,Kd.V_mono (Kd.V_drewN HS0.out nd) (fun _ h=>.inl h),HB1.out⟩
theorem Y2.big_ (k:Nat) (P0_:Nat→Prop) (A0:Option Addr) (c0:Nat) (l0:List Int) (A1:Option Addr) (c1:Nat) (l1:List Int) (c:Int) (r' r0 z1 z2 q:List Int) (w:World) (hs0:Kd.V (Kd.int .i64) 3 w w.heap.size (fun k_=>P0_ k_) (.slice A0 l0.length c0) l0) (hr1:Kd.C (Kd.int .i64) w A1 l1.length l1) (hc1:l1.length≤c1) (hc:Y9.f k l0 l1=some c) (hlt:¬ c<0)
  (hl1:1≤l1.length) (hle:l1.length≤l0.length) (hbig:l0.length<1000000000) (hcl:YS.f (l0.drop (l0.length-l1.length+1))=some r') (htd:Y3.f k r'=some r0) (hlp:Y2.lp k l0 l1 (l0.length-l1.length+1) r0 []=some (z1,z2)) (hq:Y3.f k z1=some q) :
  Calls Tryz.prog 134 #[.slice A0 l0.length c0,.slice A1 l1.length c1] w fun e w'=>∃ v0_ v1_:Value,e = .returned (.tuple #[v0_,v1_])∧Kd.V (Kd.int .i64) 3 w' w.heap.size (fun k_=>(P0_ k_∨w.heap.size≤k_)) v0_ q∧Kd.V (Kd.int .i64) 3 w' w.heap.size (fun k_=>(P0_ k_∨w.heap.size≤k_)) v1_ z2∧Below w.heap.size w w':=by
 have hc0:=(Kd.V_reads' hs0).2.1
 have hr0:=(Kd.V_reads' hs0).2.2
 have hcmp:=fun (W:World) (h0:Kd.C (Kd.int .i64) W A0 l0.length l0) (h1:Kd.C (Kd.int .i64) W A1 l1.length l1)=>Y9.calls k A0 c0 l0 A1 c1 l1 c W h0 hc0 h1 hc1 hc
 obtain ⟨d1,hd1⟩:∃ j:Int,wrap64 ((l0.length:Int)-(l1.length:Int))=j:=⟨_,rfl⟩
 have ed1:d1=((l0.length-l1.length:Nat):Int):=by rw [← hd1];unfold wrap64;omega
 obtain ⟨d2,hd2⟩:∃ j:Int,wrap64 (d1+1)=j:=⟨_,rfl⟩
 have ed2:d2=((l0.length-l1.length+1:Nat):Int):=by rw [← hd2];unfold wrap64;omega
 have hd1w:IntKind.i64.wrap ((l0.length:Int)-(l1.length:Int))=d1:=(i64_w _).trans hd1
 have hd2w:IntKind.i64.wrap (d1+1)=d2:=(i64_w _).trans hd2
 have info3c:(Tryz.prog.info? 3).map (fun i=>(i.zero,i.size,i.bytes))=some (some (.int .i64 0),1,8):=by kernel_rfl
 obtain ⟨i0,hi0,_,hsz0,_⟩:=info_parts info3c
 have hcut:=cut_from (P:=Tryz.prog) 65 3 .i64 underlying65 hi0 1 hsz0 A0 l0.length c0 d2 (by omega) (by omega)
 obtain ⟨y0,hy0⟩:∃ y:List Int,y=l0.drop (l0.length-l1.length+1):=⟨_,rfl⟩
 obtain ⟨A0',hA0'⟩:∃ A:Option Addr,A=(if c0=d2.toNat then A0 else A0.map (·.add (d2.toNat*1))):=⟨_,rfl⟩
 have hy0l:y0.length=l0.length-d2.toNat:=by rw [hy0,List.length_drop];omega
 rw [← hA0',← hy0l] at hcut
 have hC0:=fun (W:World) (h:Kd.C (Kd.int .i64) W A0 l0.length l0)=>Kd.C_drop (m:=d2.toNat) h (by omega) hc0
 have hC0':∀ (W:World),Kd.C (Kd.int .i64) W A0 l0.length l0→Kd.C (Kd.int .i64) W A0' y0.length y0:=by
  intro W h
  have:=hC0 W h
  rw [hA0',hy0,show l0.length-l1.length+1=d2.toNat by omega]
  exact this
 rw [← hy0] at hcl
 have hclone:=fun (W:World) (h0:Kd.C (Kd.int .i64) W A0' y0.length y0)=>YS.calls A0' (c0-d2.toNat) y0 r' W h0 (by omega) hcl
 have htidy:=fun (A:Option Addr) (c:Nat) (W:World) (h0:Kd.V (Kd.int .i64) 3 W W.heap.size (fun b=>w.heap.size≤b) (.slice A r'.length c) r')=>Y3.calls k (fun b=>w.heap.size≤b) A c r' r0 W h0 htd
 have c3b0:decide (c<0)=false:=decide_eq_false hlt
 have HS0:=aZ hs0
 have HR0:=aZ hr0
 have HR1:=aZ hr1
 have HC0:=aZ hC0'
 have HLP:=aZ hlp
 have HLE:=aZ hle
 have HC1:=aZ hc1
 have HL1X:=aZ hl1
 have HBIG:=aZ hbig
 have HQ:=aZ hq
 have HD:=aZ ed1
 have HB:=aZ (Below.refl w.heap.size w)
 clear hs0 hr0 hr1 hc0 hc1 hc hlt hcl htd hlp hle hbig hq ed2 ed1 hi0 hsz0 info3c hy0 hA0' hC0 hC0' hl1 hy0l
 go_enter func134,ntmps134
 go_wp2_with (first
  | (go_at_call 120;(with_reducible refine (hcmp _ ?s1 ?s2).mono ?_);(case s1=>exact HR0.out);(case s2=>exact HR1.out);clear hcmp;rintro e w' ⟨rfl,⟨nd,rfl⟩⟩;have HB1:=aZ (pw_below_drewN HB.out nd))
  | (go_at_call 160;(with_reducible refine (hclone _ ?s3).mono ?_);(case s3=>exact HC0.out _ (Kd.C_drewN HR0.out _));clear hclone;rintro e w5 ⟨v5,rfl,hv,hb⟩;obtain ⟨A5,c5,e5⟩:=Kd.R_slice hv;subst e5;have HB5:=aZ (below_step HB1.out hb);have HV5:=aZ (Kd.R_V (base':=w.heap.size) (Kd.R_mono (ok':=fun b=>w.heap.size≤b) (Kd.R_bound hv) (fun _ hk=>Nat.le_trans HB1.out.size hk.2.1)));clear hv hb)
  | (go_at_call 141;(with_reducible refine (htidy _ _ _ ?s4).mono ?_);(case s4=>exact HV5.out);clear htidy;rintro e w6 ⟨v6,rfl,hv,hb⟩;have HB6:=aZ (below_step HB5.out hb);have HV6:=aZ (Kd.V_lower (base':=w.heap.size) (Kd.V_mono (ok':=fun b=>w.heap.size≤b) hv (fun _ hk=>hk.elim id (fun h=>Nat.le_trans HB5.out.size h))) HB5.out.size);clear hv hb)
  | fail)
 clear HC0 HB1 HV5 HB5 HB
 go_loopg [6,8,9] (l0.length-l1.length+1) (fun kq v6 v8 v9 w'=>∃ (i:Nat) (r q_:List Int),v9 = .int .i64 ((i:Int)-1)∧Aside0 (Y2.lp k l0 l1 i r q_=some (z1,z2))∧Aside0 (i≤kq)∧Aside0 (q_.length+i=l0.length-l1.length+1)∧Aside0 (Kd.R (Kd.int .i64) 3 w' w.heap.size (fun _=>True) v6 q_)∧Aside0 (Kd.V (Kd.int .i64) 3 w' w.heap.size (fun b=>w.heap.size≤b∧some b≠v6.ownBlock) v8 r)∧Aside0 (Below w.heap.size w w'))
 case atStart=>exact ⟨l0.length-l1.length+1,r0,[],by rw [HD.out];congr 1;omega,HLP,⟨Nat.le_refl _⟩,⟨by simp⟩,⟨Kd.R_nil _ _ _ _ _⟩,⟨Kd.V_apart_nil HV6.out⟩,HB6⟩
 case round =>
  obtain ⟨i,r,q_,rfl,HL,HI,HQL,HR,HV,HB⟩:=hrel
  clear HLP HV6 HB6
  obtain ⟨Ar,cr,er⟩:=Kd.V_slice HV.out
  subst er
  cases i with
  | zero =>
   have hz:=HL.out
   simp only [Y2.lp,Option.some.injEq,Prod.mk.injEq] at hz
   obtain ⟨rfl,rfl⟩:=hz
   clear HL
   have hq:=HQ.out
   obtain ⟨Aq,cq,eq⟩:=Kd.R_slice HR.out
   subst eq
   have htidy:=fun (W:World) (h0:Kd.V (Kd.int .i64) 3 W W.heap.size (fun b=>w.heap.size≤b) (.slice Aq q_.length cq) q_)=>Y3.calls k (fun b=>w.heap.size≤b) Aq cq q_ q W h0 hq
   clear hq hd1 hd2 hd1w hd2w hcut c3b0
   go_wp2_with (first
    | (go_at_call 141;(with_reducible refine (htidy _ ?s9).mono ?_);(case s9=>exact Kd.R_V (Kd.R_mono (Kd.R_bound HR.out) (fun _ hk=>hk.2.1)));clear htidy;rintro e w9 ⟨v9,rfl,hv,hb⟩;have HV9:=aZ hv;have HB9:=aZ (below_step HB.out hb);have HVr:=aZ (Kd.V_below HV.out hb);clear hv hb)
    | fail)
   go_ret2
   exact ⟨_,_,rfl,Kd.V_mono HV9.out (fun b hb=>.inr (hb.elim id (fun h=>Nat.le_trans HB.out.size h))),Kd.V_mono HVr.out (fun b hb=>.inr hb.1),HB9.out⟩
  | succ i =>
   have ej:(((i+1:Nat):Int)-1)=(i:Int):=by omega
   rw [ej]
   have hl:=HL.out
   simp only [Y2.lp] at hl
   obtain ⟨rc,hrc,hl⟩:=Option.bind_eq_some_iff.1 hl
   obtain ⟨r1,hr1',hl⟩:=Option.bind_eq_some_iff.1 hl
   obtain ⟨low,hlow,hl⟩:=Option.bind_eq_some_iff.1 hl
   have hrcl:rc=r∧r.length<17592186044416:=by
    unfold YS.f at hrc
    split at hrc
    ·exact ⟨(Option.some.inj hrc).symm,by assumption⟩
    ·cases hrc
   have hiL:i<l0.length:=by have:=HQL.out;have:=HLE.out;have:=HL1X.out;omega
   obtain ⟨ad,ead,hx⟩:=Kd.at_int HR0.out (i:Int) (by omega) (by omega)
   subst ead
   rw [Int.toNat_natCast] at hx
   have hxr:=(HB.out.cell (World.block_lt_of_cell? w _ hx)).trans hx
   have hb64:(i:Int)<(l0.length:Int):=by omega
   have hbI:((i:Int)<(l0.length:Int))=True:=eq_true (by omega)
   have hbN:(i<l0.length)=True:=eq_true (by omega)
   have hclone:=fun (W:World) (h0:Kd.C (Kd.int .i64) W Ar r.length r)=>YS.calls Ar cr r rc W h0 (Kd.V_reads' HV.out).2.1 hrc
   obtain ⟨y1,hy1⟩:∃ y:List Int,rd l0 (i:Int) :: rc=y:=⟨_,rfl⟩
   rw [hy1] at hr1'
   have HY1:=aZ hy1
   clear hy1
   have htidy:=fun (A:Option Addr) (c:Nat) (W:World) (h0:Kd.V (Kd.int .i64) 3 W W.heap.size (fun b=>wr.heap.size≤b) (.slice A y1.length c) y1)=>Y3.calls k (fun b=>wr.heap.size≤b) A c y1 r1 W h0 hr1'
   have HL1:=aZ hl
   have HLOW:=aZ hlow
   have HRCL:=aZ hrcl
   clear hl hlow hrc hr1' hrcl HL hiL hx hd1 hd2 hd1w hd2w hcut c3b0 hb64
   go_wp2_with (fail)
   go_region_held3 (fun w'=>w'.cell? (ad.add i)=some (.int .i64 (rd l0 (i:Int)))) (first|(with_reducible exact hx7)|(with_reducible exact hx6)|(with_reducible exact hk5)|(with_reducible exact hxr)|(exact hxr)|(exact pw_cell_below (below_alloc (Below.refl _ _) _) hk5)|(exact pw_cell_below (below_alloc (Below.refl _ _) _) hxr))
    (first
     | (go_at_call 160;(refine (hclone _ (by (with_reducible repeat (first|apply Kd.C_alloc|apply Kd.C_drewN|apply Kd.C_drew));exact (Kd.V_reads' HV.out).2.2)).mono ?_);rintro e w5 ⟨v5,rfl,hv5_,hb5_⟩;have hb5:Below wr.heap.size wr w5:=below_step (by repeat (first|exact Below.refl _ _|apply below_alloc|apply pw_below_drewN|apply below_drew)) hb5_;have hv5:Kd.R (Kd.int .i64) 3 w5 wr.heap.size (fun _=>True) v5 rc:=Kd.R_lower hv5_ (below_size (by repeat (first|exact Below.refl _ _|apply below_alloc|apply pw_below_drewN|apply below_drew)));have hk5:=pw_cell_below hb5 hxr)
     | (go_at_call 161;have hA:Kd.R (Kd.int .i64) 3 (w5.alloc (.cells #[.int .i64 (rd l0 (i:Int))] 3)) w.heap.size (fun _=>True) v5 rc:=Kd.R_alloc (Kd.R_lower hv5 HB.out.size) _;have hBq:v5.ownBlock≠some w5.heap.size:=(fun e_=>absurd (own_lt (Kd.own_of_R hv5) _ e_) (Nat.lt_irrefl _));have hCq:w.heap.size≤(w5.alloc (.cells #[.int .i64 (rd l0 (i:Int))] 3)).heap.size:=(by have:=HB.out.size;have:=hb5.size;simp;omega);have hDq:rc.length<17592186044416:=(by rw [HRCL.out.1];exact HRCL.out.2);have hEq:=blk_new w5 (.cells #[.int .i64 (rd l0 (i:Int))] 3);(with_reducible refine (Ins.ins w.heap.size v5 rc (rd l0 (i:Int)) w5.heap.size (w5.alloc (.cells #[.int .i64 (rd l0 (i:Int))] 3)) hA hEq hBq hCq hDq).mono ?_);clear hA hBq hCq hDq hEq;rintro e w6 ⟨v6,rfl,hr6,hg6,ha6⟩;rw [HY1.out] at hr6;have hB6:Below wr.heap.size wr w6:=(hb5.alloc hb5.size _).grown hg6 (by have:=hb5.size;simp;omega) (own_base (Kd.own_of_R hv5));have hk6:∀ b,v6.ownBlock=some b→wr.heap.size≤b:=(fun b hb=>by rcases ha6 with ha6|⟨b',ha6,hb'⟩;(rw [ha6] at hb;exact own_base (Kd.own_of_R hv5) _ hb);(rw [ha6] at hb;injection hb with hb;have:=hb5.size;simp at hb';omega));obtain ⟨A6,c6,e6⟩:=Kd.R_slice hr6;subst e6;have hx6:=pw_cell_below hB6 hxr;clear hg6 ha6 hv5 hb5 hk5 hv5_ hb5_)
     | (go_at_call 161;have hA:Kd.R (Kd.int .i64) 3 w5 w.heap.size (fun _=>True) v5 rc:=Kd.R_lower hv5 HB.out.size;have hEq:w5.heap[wr.heap.size]? = some (.cells #[.int .i64 (rd l0 (i:Int))] 3 (0,0)):=(hb5_.block _ (by simp)).trans (blk_new wr _);have hFq:wr.heap.size+1≤w5.heap.size:=(by have:=hb5_.size;simp at this;omega);have hOq:∀ b,v5.ownBlock=some b→wr.heap.size+1≤b:=(fun b hb=>by have:=own_base (Kd.own_of_R hv5_) b hb;simp at this;omega);have hBq:v5.ownBlock≠some wr.heap.size:=(fun e_=>by have:=hOq _ e_;omega);have hCq:w.heap.size≤w5.heap.size:=(by have:=HB.out.size;omega);have hDq:rc.length<17592186044416:=(by rw [HRCL.out.1];exact HRCL.out.2);(with_reducible refine (Ins.ins w.heap.size v5 rc (rd l0 (i:Int)) wr.heap.size w5 hA hEq hBq hCq hDq).mono ?_);clear hA hBq hCq hDq hEq;rintro e w6 ⟨v6,rfl,hr6,hg6,ha6⟩;rw [HY1.out] at hr6;have hB6:Below wr.heap.size wr w6:=hb5.grown hg6 hb5.size (fun b hb=>by have:=hOq b hb;omega);have hk6:∀ b,v6.ownBlock=some b→wr.heap.size≤b:=(fun b hb=>by rcases ha6 with ha6|⟨b',ha6,hb'⟩;(rw [ha6] at hb;have:=hOq b hb;omega);(rw [ha6] at hb;injection hb with hb;have:=hb5.size;omega));obtain ⟨A6,c6,e6⟩:=Kd.R_slice hr6;subst e6;have hx6:=pw_cell_below hB6 hxr;clear hg6 ha6 hv5 hb5 hk5 hv5_ hb5_ hOq hFq)
     | (go_at_call 141;have hT1:=Kd.R_tight rfl hr6;have hT2:=Kd.R_mono (ok':=fun b=>wr.heap.size≤b) hT1 (fun b hb=>hk6 b hb.symm);have hT:Kd.V (Kd.int .i64) 3 w6 w6.heap.size (fun b=>wr.heap.size≤b) (.slice A6 y1.length c6) y1:=Kd.R_V hT2;refine (htidy A6 c6 w6 hT).mono ?_;clear hT1 hT2 hT;rintro e w7 ⟨v7,rfl,hv7,hb7⟩;have hB7:Below wr.heap.size wr w7:=below_then hB6 hB6.size hb7;have hx7:=pw_cell_below hB7 hxr;replace hv7:Kd.V (Kd.int .i64) 3 w7 w.heap.size (fun b=>wr.heap.size≤b) v7 r1:=Kd.V_lower (base':=w.heap.size) (Kd.V_mono (ok':=fun b=>wr.heap.size≤b) hv7 (fun b hb=>hb.elim id (fun h=>Nat.le_trans hB6.size h))) (Nat.le_trans HB.out.size hB6.size);clear hb7 hB6 hx6 hr6 hk6))
   all_goals
    clear hxr hx7 hclone htidy
    have HB7:=aZ (below_step HB.out hB7)
    have HBr:=aZ hB7
    obtain ⟨A7,c7,e7⟩:=Kd.V_slice hv7
    subst e7
    have HV7:=aZ hv7
    clear hv7 hB7
    have hc1:=HC1.out
    have hc7:=(Kd.V_reads' HV7.out).2.1
    have hof:=fun (x:Int) (t:List Int) (W:World) (ht:Y5.f k x=some t)=>Y5.calls k x t W ht
    have hmul:=fun (t p:List Int) (A:Option Addr) (c:Nat) (W:World) (h0:Kd.C (Kd.int .i64) W A1 l1.length l1) (h1:Kd.C (Kd.int .i64) W A t.length t) (h2:t.length≤c) (hp:Y1.f k l1 t=some p)=>Y1.calls k A1 c1 l1 A c t p W h0 hc1 h1 h2 hp
    have hcm2:=fun (p:List Int) (cc:Int) (A:Option Addr) (c:Nat) (W:World) (h0:Kd.C (Kd.int .i64) W A p.length p) (h2:p.length≤c) (h1:Kd.C (Kd.int .i64) W A7 r1.length r1) (hp:Y9.f k p r1=some cc)=>Y9.calls k A c p A7 c7 r1 cc W h0 h2 h1 hc7 hp
    have hadd:=fun (p r2:List Int) (A:Option Addr) (c:Nat) (W:World) (h0:Kd.C (Kd.int .i64) W A7 r1.length r1) (h1:Kd.C (Kd.int .i64) W A p.length p) (h2:p.length≤c) (hp:Ya.f k r1 p (-1)=some r2)=>Ya.calls k A7 c7 r1 A c p (-1) r2 W h0 hc7 h1 h2 hp
    clear hc1 hc7
    go_wp2_with (fail)
    go_loopg [10,11] 10000 (fun kq v10 v11 w'=>∃ (m:Nat) (lo hi:Int),v10 = .int .i64 lo∧v11 = .int .i64 hi∧Aside0 (Y2.bs k l1 r1 m lo hi=some low)∧Aside0 (m≤kq)∧(0≤lo∧lo≤9999)∧(0≤hi∧hi≤9999)∧Aside0 (Below w7.heap.size w7 w'))
    case atStart=>exact ⟨10000,0,9999,rfl,rfl,HLOW,⟨Nat.le_refl _⟩,⟨by omega,by omega⟩,⟨by omega,by omega⟩,⟨Below.refl _ _⟩⟩
    case round =>
     obtain ⟨m,lo,hi,rfl,rfl,HBS,HM,⟨hlo0,hlo1⟩,⟨hhi0,hhi1⟩,HB8⟩:=hrel
     cases m with
     | zero=>exact absurd HBS.out (by simp [Y2.bs])
     | succ m =>
      have hbs:=HBS.out
      simp only [Y2.bs] at hbs
      clear HBS
      by_cases hlt:lo<hi
      case neg=>
       rw [if_neg hlt] at hbs
       have elo:=Option.some.inj hbs
       subst elo
       clear hbs
       have c45:decide (lo<hi)=false:=decide_eq_false hlt
       have HQ44:=aZ (show q_.length<17592186044416 by have:=HQL.out;have:=HBIG.out;omega)
       have hl1:=HL1.out
       clear HL1 hlt
       by_cases hpos:lo > 0
       case neg=>
        rw [if_neg hpos] at hl1
        have c63:decide (0<lo)=false:=decide_eq_false hpos
        have HL:=aZ hl1
        clear hl1
        go_wp2_with (first
          | (go_at_call 161;have hRx:=Kd.R_below HR.out (below_step HBr.out HB8.out);have hAx:=Kd.R_alloc hRx (.cells #[.int .i64 lo] 3);have hNx:=blk_new wr (.cells #[.int .i64 lo] 3);have hBx:u6.ownBlock≠some wr.heap.size:=(fun e_=>absurd (own_lt (Kd.own_of_R hRx) _ e_) (Nat.lt_irrefl _));have hCx:w.heap.size≤(wr.alloc (.cells #[.int .i64 lo] 3)).heap.size:=(by have:=HB7.out.size;have:=HB8.out.size;simp;omega);(with_reducible refine (Ins.ins w.heap.size u6 q_ lo wr.heap.size (wr.alloc (.cells #[.int .i64 lo] 3)) hAx hNx hBx hCx HQ44.out).mono ?_);clear hAx hNx hBx hCx;rintro e w13 ⟨v13,rfl,hr13,hg13,ha13⟩;have HR13:=aZ hr13;have HG13:=aZ hg13;have HA13:=aZ ha13;clear hr13 hg13 ha13 hRx))
        have hs1:=Kd.own_of_R HR.out
        have hsz1:=HB7.out.size
        have hsz2:=HBr.out.size
        have hsz3:=HB8.out.size
        have hsz5:=HB.out.size
        have HVn:=aZ (show Kd.V (Kd.int .i64) 3 w13 w.heap.size (fun b=>w.heap.size≤b∧some b≠v13.ownBlock) (.slice A7 r1.length c7) r1 from Kd.V_mono (Kd.V_grown (Kd.V_alloc (Kd.V_below (Kd.V_bound HV7.out) HB8.out) _) HG13.out (fun b hb he=>by have:=own_lt hs1 b he.symm;have:=hb.1;omega)) (fun b hb=>⟨by have:=hb.1;omega,fun he=>by
         rcases HA13.out with h|⟨b',h,hb'⟩
         ·rw [h] at he;have:=own_lt hs1 b he.symm;have:=hb.1;omega
         ·rw [h] at he;injection he with he;have:=hb.2;simp at hb';omega⟩))
        have HBn:=aZ (show Below w.heap.size w w13 from (below_alloc (below_step HB7.out HB8.out) _).grown HG13.out (by simp;omega) (fun b hb=>own_base hs1 b hb))
        clear hs1 hsz1 hsz2 hsz3 hsz5
        go_roundg i
        case measure=>have:=HI.out;omega
        case rel=>exact ⟨i,r1,lo :: q_,congrArg (Value.int .i64) (show wrap64 ((i:Int)-1)=(i:Int)-1 by unfold wrap64;have:=HQL.out;have:=HBIG.out;omega),HL,⟨Nat.le_refl _⟩,⟨by have:=HQL.out;simp;omega⟩,HR13,HVn,HBn⟩
       rw [if_pos hpos] at hl1
       have c63:decide (0<lo)=true:=decide_eq_true hpos
       obtain ⟨t,ht,hl1⟩:=Option.bind_eq_some_iff.1 hl1
       obtain ⟨p,hp,hl1⟩:=Option.bind_eq_some_iff.1 hl1
       obtain ⟨r2,hr2,hl1⟩:=Option.bind_eq_some_iff.1 hl1
       have HT:=aZ ht
       have HP:=aZ hp
       have HR2:=aZ hr2
       have HL:=aZ hl1
       clear ht hp hr2 hl1
       go_wp2_with (first
         | (go_at_call 98;(with_reducible refine (hof lo t _ HT.out).mono ?_);rintro e w8 ⟨v8,rfl,hv,hb⟩;obtain ⟨At,ct,et⟩:=Kd.R_slice hv;subst et;have HT8:=aZ (Kd.R_reads' hv);have HB9:=aZ (below_step HB8.out hb);clear hv hb)
         | (go_at_call 112;(with_reducible refine (hmul t p At ct _ (Kd.C_below HR1.out (below_step HB7.out HB9.out)) HT8.out.2.2 HT8.out.2.1 HP.out).mono ?_);rintro e w9 ⟨v9,rfl,hv,hb⟩;obtain ⟨Ap,cp,ep⟩:=Kd.V_slice hv;subst ep;have HP9:=aZ (Kd.V_reads' hv);have HB10:=aZ (below_step HB9.out hb);clear hv hb)
         | (go_at_call 119;(with_reducible refine (hadd p r2 Ap cp _ (Kd.C_below (Kd.V_reads' HV7.out).2.2 HB10.out) HP9.out.2.2 HP9.out.2.1 HR2.out).mono ?_);rintro e w12 ⟨v12,rfl,hv,hb⟩;have HV12:=aZ (Kd.V_bound hv);have HB12:=aZ (below_step HB10.out hb);clear hv hb)
         | (go_at_call 161;have hRx:=Kd.R_below HR.out (below_step HBr.out HB12.out);have hAx:=Kd.R_alloc hRx (.cells #[.int .i64 lo] 3);have hNx:=blk_new w12 (.cells #[.int .i64 lo] 3);have hBx:u6.ownBlock≠some w12.heap.size:=(fun e_=>absurd (own_lt (Kd.own_of_R hRx) _ e_) (Nat.lt_irrefl _));have hCx:w.heap.size≤(w12.alloc (.cells #[.int .i64 lo] 3)).heap.size:=(by have:=HB7.out.size;have:=HB12.out.size;simp;omega);(with_reducible refine (Ins.ins w.heap.size u6 q_ lo w12.heap.size (w12.alloc (.cells #[.int .i64 lo] 3)) hAx hNx hBx hCx HQ44.out).mono ?_);clear hAx hNx hBx hCx;rintro e w13 ⟨v13,rfl,hr13,hg13,ha13⟩;have HR13:=aZ hr13;have HG13:=aZ hg13;have HA13:=aZ ha13;clear hr13 hg13 ha13 hRx))
       have hs1:=Kd.own_of_R HR.out
       have hsz1:=HB7.out.size
       have hsz2:=HBr.out.size
       have hsz3:=HB12.out.size
       have hsz4:=HB10.out.size
       have hsz5:=HB.out.size
       have HVn:=aZ (show Kd.V (Kd.int .i64) 3 w13 w.heap.size (fun b=>w.heap.size≤b∧some b≠v13.ownBlock) v12 r2 from Kd.V_lower (base':=w.heap.size) (Kd.V_mono (Kd.V_grown (Kd.V_alloc HV12.out _) HG13.out (fun b hb he=>by have:=own_lt hs1 b he.symm;have:=hb.1;omega)) (fun b hb=>⟨by have:=hb.1;omega,fun he=>by
        rcases HA13.out with h|⟨b',h,hb'⟩
        ·rw [h] at he;have:=own_lt hs1 b he.symm;have:=hb.1;omega
        ·rw [h] at he;injection he with he;have:=hb.2;simp at hb';omega⟩)) (by omega))
       have HBn:=aZ (show Below w.heap.size w w13 from (below_alloc (below_step HB7.out HB12.out) _).grown HG13.out (by simp;omega) (fun b hb=>own_base hs1 b hb))
       clear hs1 hsz1 hsz2 hsz3 hsz4 hsz5
       go_roundg i
       case measure=>have:=HI.out;omega
       case rel=>exact ⟨i,r2,lo :: q_,congrArg (Value.int .i64) (show wrap64 ((i:Int)-1)=(i:Int)-1 by unfold wrap64;have:=HQL.out;have:=HBIG.out;omega),HL,⟨Nat.le_refl _⟩,⟨by have:=HQL.out;simp;omega⟩,HR13,HVn,HBn⟩
      rw [if_pos hlt] at hbs
      have c45:decide (lo<hi)=true:=decide_eq_true hlt
      obtain ⟨md,hmd⟩:∃ x:Int,(lo+hi+1)/2=x:=⟨_,rfl⟩
      have hmd0:0≤md:=by omega
      have hmd1:md≤9999:=by omega
      have HMD:=aZ (show 1≤md by omega)
      rw [hmd] at hbs
      obtain ⟨t,ht,hbs⟩:=Option.bind_eq_some_iff.1 hbs
      obtain ⟨p,hp,hbs⟩:=Option.bind_eq_some_iff.1 hbs
      obtain ⟨cc,hcc,hbs⟩:=Option.bind_eq_some_iff.1 hbs
      have HT:=aZ ht
      have HP:=aZ hp
      have HCC:=aZ hcc
      clear ht hp hcc
      by_cases hc0:cc≤0
      case neg=>
       rw [if_neg hc0] at hbs
       have HBS:=aZ hbs
       have c58:decide (cc≤0)=false:=decide_eq_false hc0
       clear hbs hc0
       go_wp2_with (first
         | (go_at_call 98;(with_reducible refine (hof md t _ HT.out).mono ?_);rintro e w8 ⟨v8,rfl,hv,hb⟩;obtain ⟨At,ct,et⟩:=Kd.R_slice hv;subst et;have HT8:=aZ (Kd.R_reads' hv);have HB9:=aZ (below_step HB8.out hb);clear hv hb)
         | (go_at_call 112;(with_reducible refine (hmul t p At ct _ (Kd.C_below HR1.out (below_step HB7.out HB9.out)) HT8.out.2.2 HT8.out.2.1 HP.out).mono ?_);rintro e w9 ⟨v9,rfl,hv,hb⟩;obtain ⟨Ap,cp,ep⟩:=Kd.V_slice hv;subst ep;have HP9:=aZ (Kd.V_reads' hv);have HB10:=aZ (below_step HB9.out hb);clear hv hb)
         | (go_at_call 120;(with_reducible refine (hcm2 p cc Ap cp _ HP9.out.2.2 HP9.out.2.1 (Kd.C_below (Kd.V_reads' HV7.out).2.2 HB10.out) HCC.out).mono ?_);rintro e w' ⟨rfl,⟨nd2,rfl⟩⟩;have HB11:=aZ (pw_below_drewN HB10.out nd2)))
       go_roundg m
       case measure=>have:=HM.out;omega
       case rel=>exact ⟨m,lo,md-1,rfl,rfl,HBS,⟨Nat.le_refl _⟩,⟨hlo0,hlo1⟩,⟨by have:=HMD.out;omega,by omega⟩,HB11⟩
      rw [if_pos hc0] at hbs
      have HBS:=aZ hbs
      have c58:decide (cc≤0)=true:=decide_eq_true hc0
      clear hbs hc0
      go_wp2_with (first
        | (go_at_call 98;(with_reducible refine (hof md t _ HT.out).mono ?_);rintro e w8 ⟨v8,rfl,hv,hb⟩;obtain ⟨At,ct,et⟩:=Kd.R_slice hv;subst et;have HT8:=aZ (Kd.R_reads' hv);have HB9:=aZ (below_step HB8.out hb);clear hv hb)
        | (go_at_call 112;(with_reducible refine (hmul t p At ct _ (Kd.C_below HR1.out (below_step HB7.out HB9.out)) HT8.out.2.2 HT8.out.2.1 HP.out).mono ?_);rintro e w9 ⟨v9,rfl,hv,hb⟩;obtain ⟨Ap,cp,ep⟩:=Kd.V_slice hv;subst ep;have HP9:=aZ (Kd.V_reads' hv);have HB10:=aZ (below_step HB9.out hb);clear hv hb)
        | (go_at_call 120;(with_reducible refine (hcm2 p cc Ap cp _ HP9.out.2.2 HP9.out.2.1 (Kd.C_below (Kd.V_reads' HV7.out).2.2 HB10.out) HCC.out).mono ?_);rintro e w' ⟨rfl,⟨nd2,rfl⟩⟩;have HB11:=aZ (pw_below_drewN HB10.out nd2)))
      go_roundg m
      case measure=>have:=HM.out;omega
      case rel=>exact ⟨m,md,hi,rfl,rfl,HBS,⟨Nat.le_refl _⟩,⟨hmd0,hmd1⟩,⟨hhi0,hhi1⟩,HB11⟩
set_option maxHeartbeats 2000000 in
theorem Y2.calls (k:Nat) (P0_:Nat→Prop) (A0:Option Addr) (c0:Nat) (l0:List Int) (A1:Option Addr) (c1:Nat) (l1:List Int) (r1:List Int) (r2:List Int) (w:World) (hs0:Kd.V (Kd.int .i64) 3 w w.heap.size (fun k_=>P0_ k_) (.slice A0 l0.length c0) l0) (hr1:Kd.C (Kd.int .i64) w A1 l1.length l1) (hc1:l1.length≤c1) (h:Y2.f k l0 l1=some (r1,r2)) :
  Calls Tryz.prog 134 #[.slice A0 l0.length c0,.slice A1 l1.length c1] w fun e w'=>∃ v0_ v1_:Value,e = .returned (.tuple #[v0_,v1_])∧Kd.V (Kd.int .i64) 3 w' w.heap.size (fun k_=>(P0_ k_∨w.heap.size≤k_)) v0_ r1∧Kd.V (Kd.int .i64) 3 w' w.heap.size (fun k_=>(P0_ k_∨w.heap.size≤k_)) v1_ r2∧Below w.heap.size w w':=by
 unfold Y2.f at h
 by_cases hl:l0.length<1000000000∧l1.length<1000000000
 case neg=>rw [if_neg hl] at h;cases h
 rw [if_pos hl] at h
 obtain ⟨c,hc,h⟩:=Option.bind_eq_some_iff.1 h
 by_cases hlt:c<0
 ·rw [if_pos hlt] at h
  simp only [Option.some.injEq,Prod.mk.injEq] at h
  obtain ⟨rfl,rfl⟩:=h
  exact Y2.less_ k P0_ A0 c0 l0 A1 c1 l1 c w hs0 hr1 hc1 hc hlt
 rw [if_neg hlt] at h
 by_cases h2:1≤l1.length∧l1.length≤l0.length
 case neg=>rw [if_neg h2] at h;cases h
 rw [if_pos h2] at h
 obtain ⟨r',hr',h⟩:=Option.bind_eq_some_iff.1 h
 obtain ⟨r0,hr0,h⟩:=Option.bind_eq_some_iff.1 h
 obtain ⟨⟨z1,z2⟩,hz,h⟩:=Option.bind_eq_some_iff.1 h
 obtain ⟨q,hq,h⟩:=Option.bind_eq_some_iff.1 h
 simp only [Option.some.injEq,Prod.mk.injEq] at h
 obtain ⟨rfl,rfl⟩:=h
 exact Y2.big_ k P0_ A0 c0 l0 A1 c1 l1 c r' r0 z1 _ _ w hs0 hr1 hc1 hc hlt h2.1 h2.2 hl.1 hr' hr0 hz hq
end
def Yx.l0:Nat→List Int→List Int→Option (List Int)
 | 0,_,_=>none
 | k+1,x0,x1=>if (x1.length:Int)>0 then ((Y2.f k x0 x1).bind fun bt417=>(Yx.l0 k x1 bt417.2)) else (some x0)
def Yx.f (k:Nat) (l0:List Int) (l1:List Int):Option (List Int):=Yx.l0 k l0 l1
theorem Yx.calls (k:Nat) (P0_:Nat→Prop) (A0:Option Addr) (c0:Nat) (l0:List Int) (P1_:Nat→Prop) (A1:Option Addr) (c1:Nat) (l1:List Int) (r:List Int) (w:World) (hs0:Kd.V (Kd.int .i64) 3 w w.heap.size (fun k_=>P0_ k_) (.slice A0 l0.length c0) l0) (hs1:Kd.V (Kd.int .i64) 3 w w.heap.size (fun k_=>P1_ k_) (.slice A1 l1.length c1) l1) (h:Yx.f k l0 l1=some r) :
  Calls Tryz.prog 104 #[.slice A0 l0.length c0,.slice A1 l1.length c1] w fun e w'=>∃ v0_:Value,e = .returned (v0_)∧Kd.V (Kd.int .i64) 3 w' w.heap.size (fun k_=>((P0_ k_∨P1_ k_)∨w.heap.size≤k_)) v0_ r∧Below w.heap.size w w':=by
 have HO0:=aZ (show Kd.V (Kd.int .i64) 3 w w.heap.size (fun k_=>((P0_ k_∨P1_ k_)∨w.heap.size≤k_)) (.slice A0 l0.length c0) l0 from Kd.V_mono hs0 (fun k_ hk=>.inl (.inl hk)))
 have HO1:=aZ (show Kd.V (Kd.int .i64) 3 w w.heap.size (fun k_=>((P0_ k_∨P1_ k_)∨w.heap.size≤k_)) (.slice A1 l1.length c1) l1 from Kd.V_mono hs1 (fun k_ hk=>.inl (.inr hk)))
 have HB:=aZ (Below.refl w.heap.size w)
 have H:=h
 unfold Yx.f at H
 clear h
 have H':=aZ H
 clear H
 go_enter func104,ntmps104
 go_wp2
 go_loopg [0,1] k (fun kq v0 v1 w'=>∃ (x0_1:List Int) (x1_1:List Int),Aside0 (Yx.l0 kq x0_1 x1_1=some r)∧Aside0 (kq≤k)∧Aside0 (Kd.V (Kd.int .i64) 3 w' w.heap.size (fun k_=>((P0_ k_∨P1_ k_)∨w.heap.size≤k_)) v0 x0_1)∧Aside0 (Kd.V (Kd.int .i64) 3 w' w.heap.size (fun k_=>((P0_ k_∨P1_ k_)∨w.heap.size≤k_)) v1 x1_1)∧Aside0 (Below w.heap.size w w'))
 case atStart=>exact ⟨(l0),(l1),H',⟨Nat.le_refl _⟩,⟨zV HO0⟩,⟨zV HO1⟩,⟨bw⟩⟩
 case round =>
  clear H'
  try clear c1
  obtain ⟨x0_1,x1_1,HA,HK1,HO_0,HO_1,HB⟩:=hrel
  cases gk with
  | zero=>exact absurd HA.out (by simp [Yx.l0])
  | succ k1 =>
   have H:=HA.out
   clear HA
   simp only [Yx.l0] at H
   by_cases c3:(x1_1.length:Int)>0
   case neg=>
    rw [if_neg c3] at H
    have c3b0:=decide_eq_false c3
    have c3b1:decide (0<x1_1.length)=false:=decide_eq_false (by omega)
    clear c3
    obtain rfl:=Option.some.inj H
    obtain ⟨Ao8,co8,rfl⟩:=Kd.V_slice HO_1.out
    go_wp2
    go_ret
    exact ⟨_,ze,zV HO_0,bw⟩
   rw [if_pos c3] at H
   have c3b0:=decide_eq_true c3
   have c3b1:decide (0<x1_1.length)=true:=decide_eq_true (by omega)
   clear c3
   obtain ⟨⟨t417,t420⟩,A4,H⟩:=zB H
   (try dsimp only at H)
   have H':=aZ H
   clear H
   obtain ⟨Ao5,co5,rfl⟩:=Kd.V_slice HO_1.out
   obtain ⟨Ao6,co6,rfl⟩:=Kd.V_slice HO_0.out
   go_wp2_with (first|(refine zg (some 13) func134 #[.slice Ao6 x0_1.length co6,.slice Ao5 x1_1.length co5] ?_;(with_reducible refine (Y2.calls k1 (fun k_=>((P0_ k_∨P1_ k_)∨w.heap.size≤k_)) _ _ x0_1 _ _ x1_1 t417 t420 _ HO_0.out (zC (Kd.V_reads' HO_1.out).2.2) ((Kd.V_reads' HO_1.out).2.1) A4.out).mono ?_);rintro e w7 ⟨v418,v421,rfl,ho0,ho1,hb⟩;refine ⟨_,rfl,?_⟩;replace HO_0:=yV HO_0 hb;replace HO_1:=yV HO_1 hb;have HO419:=yL (fun k_=>((P0_ k_∨P1_ k_)∨w.heap.size≤k_)) ho0 (fun k_ hk_=>Or.elim hk_ (fun hs_=>hs_) (fun hn_=>(.inr (Nat.le_trans bs hn_))));have HO422:=yL (fun k_=>((P0_ k_∨P1_ k_)∨w.heap.size≤k_)) ho1 (fun k_ hk_=>Or.elim hk_ (fun hs_=>hs_) (fun hn_=>(.inr (Nat.le_trans bs hn_))));replace HB:=sB hb;clear hb ho0 ho1))
   go_roundg k1
   case measure=>have:=HK1.out;omega
   case rel=>exact ⟨(x1_1),(t420),H',⟨by have:=HK1.out;omega⟩,⟨zV HO_1⟩,⟨zV HO422⟩,⟨bw⟩⟩
section
def Y0j.f (a0:ByteArray):Option (Int×Option Int):=if a0.size≤18 then (Lib.atoi a0.data.toList).map (fun n=>(n,none)) else none
theorem Y0j.calls (a0:ByteArray) (r1:Int) (r2:Option Int) (w:World) (h:Y0j.f a0=some (r1,r2)) :
  Calls Tryz.prog 133 #[.string a0] w fun e w'=>e = .returned (.tuple #[.int .i64 r1,errW r2])∧Below w.heap.size w w':=by
 unfold Y0j.f at h
 by_cases c:a0.size≤18
 case neg=>
  rw [if_neg c] at h;cases h
 rw [if_pos c] at h
 obtain ⟨n,hn,he⟩:=Option.map_eq_some_iff.1 h
 obtain ⟨rfl,rfl⟩:=Prod.mk.inj he
 have ha:Lib.atoiAll a0.data.toList = .ok n:=by rw [Lib.atoiAll_short _ (by rw [Array.length_toList];exact c),hn];rfl
 refine (Tryz.strconv_Atoi_ok a0 (Nat.le_trans c (by decide)) n ha w).mono ?_
 rintro e w' ⟨rfl,hw⟩
 refine ⟨rfl,?_⟩
 rcases hw with rfl|⟨t,rfl⟩
 ·exact Below.refl _ _
 ·exact Lib.bytesWorld_below _ _ _
end
def Yj.l0:Nat→ByteArray→List Int→Option (List Int)
 | 0,_,_=>none
 | k+1,x0,x3=>if (x0.size:Int)>0 then (if 0≤(mx 0 (wrap64 ((x0.size:Int)-4))) then (if (mx 0 (wrap64 ((x0.size:Int)-4)))≤(x0.size:Int) then ((Y0j.f (x0.extract ((mx 0 (wrap64 ((x0.size:Int)-4))):Int).toNat x0.size)).bind fun bt423=>(if x3.length<17592186044416 then (Yj.l0 k (x0.extract 0 ((mx 0 (wrap64 ((x0.size:Int)-4))):Int).toNat) (x3++[bt423.1])) else (none))) else (none)) else (none)) else ((Y3.f k x3).bind fun t428=>(some t428))
def Yj.f (k:Nat) (a0:ByteArray):Option (List Int):=Yj.l0 k a0 ([]:List Int)
theorem Yj.calls (k:Nat) (a0:ByteArray) (r:List Int) (w:World) (h:Yj.f k a0=some r) :
  Calls Tryz.prog 105 #[.string a0] w fun e w'=>∃ v0_:Value,e = .returned (v0_)∧Kd.V (Kd.int .i64) 3 w' w.heap.size (fun k_=>(w.heap.size≤k_)) v0_ r∧Below w.heap.size w w':=by
 have HB:=aZ (Below.refl w.heap.size w)
 have H:=h
 unfold Yj.f at H
 clear h
 have H':=aZ H
 clear H
 go_enter func105,ntmps105
 go_wp2
 go_loopg [0,3] k (fun kq v0 v3 w'=>∃ (x0_1:ByteArray) (x3_1:List Int),v0 = .string x0_1∧Aside0 (Yj.l0 kq x0_1 x3_1=some r)∧Aside0 (kq≤k)∧Aside0 (Kd.R (Kd.int .i64) 3 w' w.heap.size (fun k_=>(w.heap.size≤k_)) v3 x3_1)∧Aside0 (Below w.heap.size w w'))
 case atStart=>exact ⟨(a0),(([]:List Int)),zs,H',⟨Nat.le_refl _⟩,⟨by first|exact Kd.R_nil _ _ _ _ _|exact Kd.N_nil _ _ _ _ _|exact Kd.V_nil _ _ _ _ _|exact Kd.Q_nil _ _ _ _ _|exact Kd.S_nil _ _ _ _ _⟩,⟨bw⟩⟩
 case round =>
  clear H'
  try clear c1
  obtain ⟨x0_1,x3_1,rfl,HA,HK1,HO_3,HB⟩:=hrel
  cases gk with
  | zero=>exact absurd HA.out (by simp [Yj.l0])
  | succ k1 =>
   have H:=HA.out
   clear HA
   simp only [Yj.l0] at H
   by_cases c2:(x0_1.size:Int)>0
   case neg=>
    rw [if_neg c2] at H
    have c2b0:=decide_eq_false c2
    have c2b1:decide (0<x0_1.size)=false:=decide_eq_false (by omega)
    clear c2
    obtain ⟨t428,A12,H⟩:=zB H
    obtain rfl:=Option.some.inj H
    obtain ⟨Ao13,co13,rfl⟩:=Kd.R_slice HO_3.out
    go_wp2_with (first|(refine zg (some 29) func141 #[.slice Ao13 x3_1.length co13] ?_;(with_reducible refine (Y3.calls k1 (fun k_=>some k_=(.slice Ao13 x3_1.length co13:Value).ownBlock) _ _ x3_1 t428 _ ?side1 A12.out).mono ?_);(case side1=>exact Kd.R_V (Kd.R_tight rfl (HO_3.out)));rintro e w14 ⟨v429,rfl,ho0,hb⟩;refine ⟨_,rfl,?_⟩;have HO430:=yL (fun k_=>(w.heap.size≤k_)) ho0 (fun k_ hk_=>Or.elim hk_ (fun hs_=>((HO_3.out).1 k_ hs_.symm)) (fun hn_=>(Nat.le_trans bs hn_)));replace HO_3:=yR HO_3 hb;replace HB:=sB hb;clear hb ho0))
    go_ret
    exact ⟨_,ze,zV HO430,bw⟩
   rw [if_pos c2] at H
   have c2b0:=decide_eq_true c2
   have c2b1:decide (0<x0_1.size)=true:=decide_eq_true (by omega)
   clear c2
   obtain ⟨ji3,hji3⟩:∃ j_:Int,(mx 0 (wrap64 ((x0_1.size:Int)-4)))=j_:=⟨_,rfl⟩
   (first|rw [hji3] at H|simp only [hji3] at H)
   have hji3_:(if 0<(wrap64 ((x0_1.size:Int)-4)) then (wrap64 ((x0_1.size:Int)-4)) else 0)=ji3:=hji3
   by_cases c4:0≤(ji3)
   case neg=>
    rw [if_neg c4] at H
    cases H
   rw [if_pos c4] at H
   have c4b0:=eq_true c4
   have c4b1:=decide_eq_true c4
   clear c4
   by_cases c5:(ji3)≤(x0_1.size:Int)
   case neg=>
    rw [if_neg c5] at H
    cases H
   rw [if_pos c5] at H
   have c5b0:=eq_true c5
   have c5b1:=decide_eq_true c5
   clear c5
   obtain ⟨⟨t423,t424⟩,A6,H⟩:=zB H
   (try dsimp only at H)
   by_cases c7:x3_1.length<17592186044416
   case neg=>
    rw [if_neg c7] at H
    cases H
   rw [if_pos c7] at H
   have LMc7:=aZ c7
   clear c7
   obtain ⟨y425,hy425⟩:∃ y_:List Int,y_=(x3_1++[t423]):=⟨_,rfl⟩
   replace H:(Yj.l0 k1 (x0_1.extract 0 ((ji3):Int).toNat) y425)=some r:=zy hy425 H
   have Ny425:=aZ hy425
   clear hy425
   have c8b0:=eq_true (zd:0≤(ji3))
   have c9b0:=eq_true (zd:(ji3)≤(x0_1.size:Int))
   have H':=aZ H
   clear H
   go_wp2_with (first|((with_reducible refine gate_callee (f:=133) rfl ?_);refine goesL_ (some 18) rfl rfl func133 (by kernel_rfl) rfl #[.string (x0_1.extract ((ji3):Int).toNat x0_1.size)] rfl (by (try simp only [List.map_toArray,List.map_cons,List.map_nil]);first|done|(simp only [hji3];rfl)|rfl|(simp only [List.length_drop,List.length_take];rfl)) ?_;(with_reducible refine (Y0j.calls (x0_1.extract ((ji3):Int).toNat x0_1.size) t423 t424 _ A6.out).mono ?_);rintro e w10 ⟨rfl,hb⟩;refine ⟨_,rfl,?_⟩;replace HO_3:=yR HO_3 hb;replace HB:=sB hb;clear hb;(try simp only [errW_none,errW_some]))|((with_reducible refine gate_builtin (b:=.append) (xs:=#[.tmp 21,.tmp 23]) rfl ?_);at_builtin;refine Kd.R_append (Kd.int .i64) (w0:=w) w.heap.size rfl (.tmp 21) (.tmp 23) 65 3 (.int .i64 0) 8 rfl underlying65 info3 rfl (by decide) (by omega) u3 x3_1 t423 [.int .i64 t423] (fun k_=>(w.heap.size≤k_)) (fun _=>False) rfl rfl ?aP (fun _ hk=>hk.elim) ?aF ?aO ?aB ?aS ?aL ?_;(case aP=>exact rfl);(case aB=>exact bw);(case aF=>exact (fun k_ hk=>(Nat.le_trans bs hk)));(case aO=>exact (zR HO_3));(case aS=>exact bs);(case aL=>have:=LMc7.out;omega);intro v426 w11 ho hb hg hat;rw [← Ny425.out] at ho;replace HB:=aZ (hb);have HO427:=aZ (ho);clear HO_3;clear ho hb hg hat))
   go_roundg k1
   case measure=>have:=HK1.out;omega
   case rel=>exact ⟨(x0_1.extract 0 ((ji3):Int).toNat),(y425),(by first|rfl|(simp;done)|(simp only [← hji3] <;> (first|rfl|simp))|(simp [*];done)),H',⟨by have:=HK1.out;omega⟩,⟨zR HO427⟩,⟨bw⟩⟩
def Yk.j0:Nat→ByteArray→Bool→ByteArray→ByteArray→Option (Int)
 | 0,_,_,_,_=>none
 | k+1,x3,x37,x432000,x432001=>if x37=true then (some 3) else ((Yj.f k x3).bind fun t436=>((Yj.f k x432001).bind fun t439=>((Yx.f k t436 t439).bind fun t442=>(if (t442.length:Int)=1 then (if 0<(t442.length:Int) then (if (rd t442 0)=1 then (some 0) else (some 3)) else (none)) else (some 3)))))
def Yk.f (k:Nat) (a0_0:ByteArray) (a0_1:ByteArray):Option (Int):=(YH.f a0_0 (⟨#[45]⟩:ByteArray)).bind fun bt432=>((Yn.f k bt432.1).bind fun t434=>(if t434=true then ((Yn.f k a0_1).bind fun t435=>(if t435=true then (if a0_1.toList=([48]:List UInt8) then (Yk.j0 k bt432.1 true a0_0 a0_1) else (if bt432.1.toList=([48]:List UInt8) then (if bt432.2=true then (Yk.j0 k bt432.1 true a0_0 a0_1) else (Yk.j0 k bt432.1 (a0_1.toList != ([49]:List UInt8)) a0_0 a0_1)) else (Yk.j0 k bt432.1 false a0_0 a0_1))) else (Yk.j0 k bt432.1 true a0_0 a0_1))) else (Yk.j0 k bt432.1 true a0_0 a0_1)))
theorem Yk.calls (k:Nat) (a0_0:ByteArray) (a0_1:ByteArray) (r:Int) (w:World) (h:Yk.f k a0_0 a0_1=some r) :
  Calls Tryz.prog 53 #[.agg #[.string a0_0,.string a0_1]] w fun e w'=>e = .returned (.int .i64 r)∧Below w.heap.size w w':=by
 have hu61:=underlying61
 have HB:=aZ (Below.refl w.heap.size w)
 have H:=h
 unfold Yk.f at H
 clear h
 obtain ⟨⟨t432,t433⟩,A2,H⟩:=zB H
 (try dsimp only at H)
 have HC3:=aZ H
 clear H
 go_enter func53,ntmps53
 go_upto_region 2 with (first|(refine box_ev 1 #[.string a0_0,.string a0_1] 61 ?_;intro gb431 hg w4 hbox hb;have BK431:=aZ hbox;have GE431:=sG hg;replace HB:=sB hb;clear hb hbox hg;obtain ⟨hcz5_0,hfz5_0⟩:=zc BK431 0 (.string a0_0) rfl;obtain ⟨hcz5_1,hfz5_1⟩:=zc BK431 1 (.string a0_1) rfl)|(refine zg (some 9) func102 #[.string a0_0,.string (⟨#[45]⟩:ByteArray)] ?_;(with_reducible refine (YH.calls a0_0 (⟨#[45]⟩:ByteArray) t432 t433 _ A2.out).mono ?_);rintro e w' ⟨rfl,⟨nd,rfl⟩⟩;refine ⟨_,rfl,?_⟩))
 (try simp only [Act.put,List.setIfInBounds_toArray,List.set_cons_zero,List.set_cons_succ])
 go_cut [37] (fun v37 wc=>∃ (kq:Nat) (x37_2:Bool),v37 = .bool x37_2∧Aside0 (Yk.j0 kq t432 x37_2 a0_0 a0_1=some r)∧Aside0 (kq≤k)∧Aside0 (wc.heap[gb431]? = some (.cells #[.string a0_0,.string a0_1] 61 (0,0)))∧Aside0 (Below w.heap.size w wc))
 case first =>
  have H:=HC3.out
  clear HC3
  obtain ⟨t434,A6,H⟩:=zB H
  by_cases c7:t434=true
  case neg=>
   replace c7:=Bool.eq_false_iff.mpr c7
   subst c7
   replace H:=zU H
   have H':=aZ H
   clear H
   go_wp2_with (first|(refine zg (some 13) func103 #[.string t432] ?_;(with_reducible refine (Yn.calls k t432 false _ A6.out).mono ?_);rintro e w' ⟨rfl,⟨nd,rfl⟩⟩;refine ⟨_,rfl,?_⟩))
   go_meet
   case rel=>exact ⟨_,(true),zs,H',⟨by first|omega|exact Nat.le_refl _⟩,⟨zb BK431⟩,⟨bw⟩⟩
  subst c7
  replace H:=zT H
  obtain ⟨t435,A8,H⟩:=zB H
  by_cases c9:t435=true
  case neg=>
   replace c9:=Bool.eq_false_iff.mpr c9
   subst c9
   replace H:=zU H
   have H':=aZ H
   clear H
   go_wp2_with (first|(refine zg (some 13) func103 #[.string t432] ?_;(with_reducible refine (Yn.calls k t432 true _ A6.out).mono ?_);rintro e w' ⟨rfl,⟨nd,rfl⟩⟩;refine ⟨_,rfl,?_⟩;obtain ⟨hcz17_0,hfz17_0⟩:=zc BK431 0 (.string a0_0) rfl;obtain ⟨hcz17_1,hfz17_1⟩:=zc BK431 1 (.string a0_1) rfl)|(go_at_call 103;(with_reducible refine (Yn.calls k a0_1 false _ A8.out).mono ?_);rintro e w' ⟨rfl,⟨nd,rfl⟩⟩))
   go_meet
   case rel=>exact ⟨_,(true),zs,H',⟨by first|omega|exact Nat.le_refl _⟩,⟨zb BK431⟩,⟨bw⟩⟩
  subst c9
  replace H:=zT H
  by_cases c10:a0_1.toList=([48]:List UInt8)
  case neg=>
   rw [if_neg c10] at H
   obtain ⟨c10b0,c10b1⟩:=zX c10
   (first|rw [c10b0]|(simp only [i64_w,i32_w];rw [c10b0])|skip)
   by_cases c12:t432.toList=([48]:List UInt8)
   case neg=>
    rw [if_neg c12] at H
    obtain ⟨c12b0,c12b1⟩:=zX c12
    have H':=aZ H
    clear H
    go_wp2_with (first|(refine zg (some 13) func103 #[.string t432] ?_;(with_reducible refine (Yn.calls k t432 true _ A6.out).mono ?_);rintro e w' ⟨rfl,⟨nd,rfl⟩⟩;refine ⟨_,rfl,?_⟩;obtain ⟨hcz16_0,hfz16_0⟩:=zc BK431 0 (.string a0_0) rfl;obtain ⟨hcz16_1,hfz16_1⟩:=zc BK431 1 (.string a0_1) rfl)|(go_at_call 103;(with_reducible refine (Yn.calls k a0_1 true _ A8.out).mono ?_);rintro e w' ⟨rfl,⟨nd,rfl⟩⟩))
    go_meet
    case rel=>exact ⟨_,(false),zs,H',⟨by first|omega|exact Nat.le_refl _⟩,⟨zb BK431⟩,⟨bw⟩⟩
   rw [if_pos c12] at H
   obtain ⟨c12b0,c12b1⟩:=zY c12
   clear c12
   by_cases c13:t433=true
   case neg=>
    replace c13:=Bool.eq_false_iff.mpr c13
    subst c13
    replace H:=zU H
    have H':=aZ H
    clear H
    go_wp2_with (first|(refine zg (some 13) func103 #[.string t432] ?_;(with_reducible refine (Yn.calls k t432 true _ A6.out).mono ?_);rintro e w' ⟨rfl,⟨nd,rfl⟩⟩;refine ⟨_,rfl,?_⟩;obtain ⟨hcz15_0,hfz15_0⟩:=zc BK431 0 (.string a0_0) rfl;obtain ⟨hcz15_1,hfz15_1⟩:=zc BK431 1 (.string a0_1) rfl)|(go_at_call 103;(with_reducible refine (Yn.calls k a0_1 true _ A8.out).mono ?_);rintro e w' ⟨rfl,⟨nd,rfl⟩⟩))
    go_meet
    case rel=>exact ⟨_,((a0_1.toList != ([49]:List UInt8))),zs,H',⟨by first|omega|exact Nat.le_refl _⟩,⟨zb BK431⟩,⟨bw⟩⟩
   subst c13
   replace H:=zT H
   have H':=aZ H
   clear H
   go_wp2_with (first|(refine zg (some 13) func103 #[.string t432] ?_;(with_reducible refine (Yn.calls k t432 true _ A6.out).mono ?_);rintro e w' ⟨rfl,⟨nd,rfl⟩⟩;refine ⟨_,rfl,?_⟩;obtain ⟨hcz14_0,hfz14_0⟩:=zc BK431 0 (.string a0_0) rfl;obtain ⟨hcz14_1,hfz14_1⟩:=zc BK431 1 (.string a0_1) rfl)|(go_at_call 103;(with_reducible refine (Yn.calls k a0_1 true _ A8.out).mono ?_);rintro e w' ⟨rfl,⟨nd,rfl⟩⟩))
   go_meet
   case rel=>exact ⟨_,(true),zs,H',⟨by first|omega|exact Nat.le_refl _⟩,⟨zb BK431⟩,⟨bw⟩⟩
  rw [if_pos c10] at H
  obtain ⟨c10b0,c10b1⟩:=zY c10
  clear c10
  (first|rw [c10b0]|(simp only [i64_w,i32_w];rw [c10b0])|skip)
  have H':=aZ H
  clear H
  go_wp2_with (first|(refine zg (some 13) func103 #[.string t432] ?_;(with_reducible refine (Yn.calls k t432 true _ A6.out).mono ?_);rintro e w' ⟨rfl,⟨nd,rfl⟩⟩;refine ⟨_,rfl,?_⟩;obtain ⟨hcz11_0,hfz11_0⟩:=zc BK431 0 (.string a0_0) rfl;obtain ⟨hcz11_1,hfz11_1⟩:=zc BK431 1 (.string a0_1) rfl)|(go_at_call 103;(with_reducible refine (Yn.calls k a0_1 true _ A8.out).mono ?_);rintro e w' ⟨rfl,⟨nd,rfl⟩⟩))
  go_meet
  case rel=>exact ⟨_,(true),zs,H',⟨by first|omega|exact Nat.le_refl _⟩,⟨zb BK431⟩,⟨bw⟩⟩
 case rest =>
  clear HC3
  obtain ⟨kq,x37_2,rfl,HA,HJ2,BK431,HB⟩:=hcut
  cases kq with
  | zero=>exact absurd HA.out (by simp [Yk.j0])
  | succ kj2 =>
   have H:=HA.out
   clear HA
   simp only [Yk.j0] at H
   by_cases c18:x37_2=true
   case neg=>
    replace c18:=Bool.eq_false_iff.mpr c18
    subst c18
    replace H:=zU H
    obtain ⟨t436,A19,H⟩:=zB H
    obtain ⟨t439,A20,H⟩:=zB H
    obtain ⟨t442,A21,H⟩:=zB H
    by_cases c22:(t442.length:Int)=1
    case neg=>
     rw [if_neg c22] at H
     obtain ⟨c22b0,c22b1⟩:=zX c22
     obtain rfl:=Option.some.inj H
     try go_wp2
     replace BK431:=aZ (blk_drew BK431.out)
     replace HB:=aZ (below_drew1 HB.out)
     refine start_ (n:=7) (S:=fun w'=>w'.cell? ⟨gb431,0,none⟩=some (.string a0_0)∧w'.cell? ⟨gb431,1,none⟩=some (.string a0_1)) (ds:=[]) #[false,false,false,false,false,false,false] (by kernel_rfl) rfl rfl ⟨zh BK431 0,zh BK431 1⟩ (fun hHeld=>?_)
     generalize wc.drew=w39 at BK431 HB hHeld ⊢
     refine pv 0 (some 38) ?_
     refine pv 2 (some 40) ?_
     refine tv 3 (some 41) hHeld ?_
     refine one_ (i:=1) (N:=some 39) #[true,true,true,true,false,false,false] rfl rfl (by kernel_rfl) (by decide) (fun K hK=>?_)
     refine goes_ func105 (by kernel_rfl) rfl #[.string t432] (by rfl) rfl rfl zm ?_
     with_reducible refine (Yj.calls kj2 t432 t436 _ A19.out).mono ?_
     rintro e w40 ⟨v437,rfl,ho0,hb⟩
     refine ⟨_,rfl,?_⟩
     have HO438:=yL (fun k_=>k_≠gb431) ho0 (fun k_ hk_=>(zf BK431 hk_))
     replace BK431:=sK BK431 hb
     replace HB:=sB hb
     clear hb ho0
     refine hK.out _ _ ⟨zh BK431 0,zh BK431 1⟩ (fun hHeld=>?_)
     clear hK K
     refine nm ?_
     refine one_ (i:=4) (N:=some 42) #[true,true,true,true,true,false,false] rfl rfl (by kernel_rfl) (by decide) (fun K hK=>?_)
     refine goes_ func105 (by kernel_rfl) rfl #[.string a0_1] (by rfl) rfl rfl zm ?_
     with_reducible refine (Yj.calls kj2 a0_1 t439 _ A20.out).mono ?_
     rintro e w41 ⟨v440,rfl,ho0,hb⟩
     refine ⟨_,rfl,?_⟩
     replace HO438:=yV HO438 hb
     have HO441:=yL (fun k_=>k_≠gb431) ho0 (fun k_ hk_=>(zf BK431 hk_))
     replace BK431:=sK BK431 hb
     replace HB:=sB hb
     clear hb ho0
     obtain ⟨Ao42,co42,eo42⟩:=Kd.V_slice HO438.out
     (first|subst eo42|(injection eo42 with f1_ f2_ f3_;have f4_:=f1_.symm;have f5_:=f3_.symm;clear f1_ f2_ f3_;subst f4_;subst f5_))
     obtain ⟨Ao43,co43,eo43⟩:=Kd.V_slice HO441.out
     (first|subst eo43|(injection eo43 with f1_ f2_ f3_;have f4_:=f1_.symm;have f5_:=f3_.symm;clear f1_ f2_ f3_;subst f4_;subst f5_))
     refine hK.out _ _ ⟨zh BK431 0,zh BK431 1⟩ (fun hHeld=>?_)
     clear hK K
     refine nm ?_
     refine one_ (i:=5) (N:=some 43) #[true,true,true,true,true,true,false] rfl rfl (by kernel_rfl) (by decide) (fun K hK=>?_)
     refine goes_ func104 (by kernel_rfl) rfl #[.slice Ao42 t436.length co42,.slice Ao43 t439.length co43] (by rfl) rfl rfl zm ?_
     with_reducible refine (Yx.calls kj2 (fun k_=>k_≠gb431) _ _ t436 (fun k_=>k_≠gb431) _ _ t439 t442 _ HO438.out HO441.out A21.out).mono ?_
     rintro e w44 ⟨v443,rfl,ho0,hb⟩
     refine ⟨_,rfl,?_⟩
     replace HO438:=yV HO438 hb
     replace HO441:=yV HO441 hb
     have HO444:=yL (fun k_=>k_≠gb431) ho0 (fun k_ hk_=>Or.elim hk_ (fun hs_=>Or.elim hs_ (fun hs_=>hs_) (fun hs_=>hs_)) (fun hn_=>(zf BK431 hn_)))
     replace BK431:=sK BK431 hb
     replace HB:=sB hb
     clear hb ho0
     refine hK.out _ _ ⟨zh BK431 0,zh BK431 1⟩ (fun hHeld=>?_)
     clear hK K
     refine nm ?_
     refine pv 6 (some 5) ?_
     refine done_ (by kernel_rfl) ?_
     obtain ⟨Ao45,co45,rfl⟩:=Kd.V_slice HO444.out
     try go_wp2
     go_ret
     exact ⟨ze,bw⟩
    rw [if_pos c22] at H
    obtain ⟨c22b0,c22b1⟩:=zY c22
    clear c22
    by_cases c23:0<(t442.length:Int)
    case neg=>
     rw [if_neg c23] at H
     cases H
    rw [if_pos c23] at H
    have c23b0:=decide_eq_true c23
    have c23b1:decide (0<t442.length)=true:=decide_eq_true (by omega)
    clear c23
    by_cases c24:(rd t442 0)=1
    case neg=>
     rw [if_neg c24] at H
     obtain ⟨c24b0,c24b1⟩:=zX c24
     obtain rfl:=Option.some.inj H
     try go_wp2
     replace BK431:=aZ (blk_drew BK431.out)
     replace HB:=aZ (below_drew1 HB.out)
     refine start_ (n:=7) (S:=fun w'=>w'.cell? ⟨gb431,0,none⟩=some (.string a0_0)∧w'.cell? ⟨gb431,1,none⟩=some (.string a0_1)) (ds:=[]) #[false,false,false,false,false,false,false] (by kernel_rfl) rfl rfl ⟨zh BK431 0,zh BK431 1⟩ (fun hHeld=>?_)
     generalize wc.drew=w32 at BK431 HB hHeld ⊢
     refine pv 0 (some 38) ?_
     refine pv 2 (some 40) ?_
     refine tv 3 (some 41) hHeld ?_
     refine one_ (i:=1) (N:=some 39) #[true,true,true,true,false,false,false] rfl rfl (by kernel_rfl) (by decide) (fun K hK=>?_)
     refine goes_ func105 (by kernel_rfl) rfl #[.string t432] (by rfl) rfl rfl zm ?_
     with_reducible refine (Yj.calls kj2 t432 t436 _ A19.out).mono ?_
     rintro e w33 ⟨v437,rfl,ho0,hb⟩
     refine ⟨_,rfl,?_⟩
     have HO438:=yL (fun k_=>k_≠gb431) ho0 (fun k_ hk_=>(zf BK431 hk_))
     replace BK431:=sK BK431 hb
     replace HB:=sB hb
     clear hb ho0
     refine hK.out _ _ ⟨zh BK431 0,zh BK431 1⟩ (fun hHeld=>?_)
     clear hK K
     refine nm ?_
     refine one_ (i:=4) (N:=some 42) #[true,true,true,true,true,false,false] rfl rfl (by kernel_rfl) (by decide) (fun K hK=>?_)
     refine goes_ func105 (by kernel_rfl) rfl #[.string a0_1] (by rfl) rfl rfl zm ?_
     with_reducible refine (Yj.calls kj2 a0_1 t439 _ A20.out).mono ?_
     rintro e w34 ⟨v440,rfl,ho0,hb⟩
     refine ⟨_,rfl,?_⟩
     replace HO438:=yV HO438 hb
     have HO441:=yL (fun k_=>k_≠gb431) ho0 (fun k_ hk_=>(zf BK431 hk_))
     replace BK431:=sK BK431 hb
     replace HB:=sB hb
     clear hb ho0
     obtain ⟨Ao35,co35,eo35⟩:=Kd.V_slice HO438.out
     (first|subst eo35|(injection eo35 with f1_ f2_ f3_;have f4_:=f1_.symm;have f5_:=f3_.symm;clear f1_ f2_ f3_;subst f4_;subst f5_))
     obtain ⟨Ao36,co36,eo36⟩:=Kd.V_slice HO441.out
     (first|subst eo36|(injection eo36 with f1_ f2_ f3_;have f4_:=f1_.symm;have f5_:=f3_.symm;clear f1_ f2_ f3_;subst f4_;subst f5_))
     refine hK.out _ _ ⟨zh BK431 0,zh BK431 1⟩ (fun hHeld=>?_)
     clear hK K
     refine nm ?_
     refine one_ (i:=5) (N:=some 43) #[true,true,true,true,true,true,false] rfl rfl (by kernel_rfl) (by decide) (fun K hK=>?_)
     refine goes_ func104 (by kernel_rfl) rfl #[.slice Ao35 t436.length co35,.slice Ao36 t439.length co36] (by rfl) rfl rfl zm ?_
     with_reducible refine (Yx.calls kj2 (fun k_=>k_≠gb431) _ _ t436 (fun k_=>k_≠gb431) _ _ t439 t442 _ HO438.out HO441.out A21.out).mono ?_
     rintro e w37 ⟨v443,rfl,ho0,hb⟩
     refine ⟨_,rfl,?_⟩
     replace HO438:=yV HO438 hb
     replace HO441:=yV HO441 hb
     have HO444:=yL (fun k_=>k_≠gb431) ho0 (fun k_ hk_=>Or.elim hk_ (fun hs_=>Or.elim hs_ (fun hs_=>hs_) (fun hs_=>hs_)) (fun hn_=>(zf BK431 hn_)))
     replace BK431:=sK BK431 hb
     replace HB:=sB hb
     clear hb ho0
     refine hK.out _ _ ⟨zh BK431 0,zh BK431 1⟩ (fun hHeld=>?_)
     clear hK K
     refine nm ?_
     refine pv 6 (some 5) ?_
     refine done_ (by kernel_rfl) ?_
     obtain ⟨Ao38,co38,rfl⟩:=Kd.V_slice HO444.out
     have p445:0≤(0:Int):=(by omega)
     have q445:0<(t442.length:Int):=zd
     obtain ⟨ad445,e445,hx445_0⟩:=Kd.at_int (Kd.V_reads' HO444.out).2.2 0 p445 q445
     cases e445
     have qi445:(0<t442.length)=True:=eq_true (by omega)
     (try rw [show ((0:Int)).toNat=0 from rfl] at hx445_0)
     (try rw [Addr.add_zero'] at hx445_0)
     replace p445:=eq_true p445
     replace q445:=eq_true q445
     try go_wp2
     go_ret
     exact ⟨ze,bw⟩
    rw [if_pos c24] at H
    obtain ⟨c24b0,c24b1⟩:=zY c24
    clear c24
    obtain rfl:=Option.some.inj H
    try go_wp2
    replace BK431:=aZ (blk_drew BK431.out)
    replace HB:=aZ (below_drew1 HB.out)
    refine start_ (n:=7) (S:=fun w'=>w'.cell? ⟨gb431,0,none⟩=some (.string a0_0)∧w'.cell? ⟨gb431,1,none⟩=some (.string a0_1)) (ds:=[]) #[false,false,false,false,false,false,false] (by kernel_rfl) rfl rfl ⟨zh BK431 0,zh BK431 1⟩ (fun hHeld=>?_)
    generalize wc.drew=w25 at BK431 HB hHeld ⊢
    refine pv 0 (some 38) ?_
    refine pv 2 (some 40) ?_
    refine tv 3 (some 41) hHeld ?_
    refine one_ (i:=1) (N:=some 39) #[true,true,true,true,false,false,false] rfl rfl (by kernel_rfl) (by decide) (fun K hK=>?_)
    refine goes_ func105 (by kernel_rfl) rfl #[.string t432] (by rfl) rfl rfl zm ?_
    with_reducible refine (Yj.calls kj2 t432 t436 _ A19.out).mono ?_
    rintro e w26 ⟨v437,rfl,ho0,hb⟩
    refine ⟨_,rfl,?_⟩
    have HO438:=yL (fun k_=>k_≠gb431) ho0 (fun k_ hk_=>(zf BK431 hk_))
    replace BK431:=sK BK431 hb
    replace HB:=sB hb
    clear hb ho0
    refine hK.out _ _ ⟨zh BK431 0,zh BK431 1⟩ (fun hHeld=>?_)
    clear hK K
    refine nm ?_
    refine one_ (i:=4) (N:=some 42) #[true,true,true,true,true,false,false] rfl rfl (by kernel_rfl) (by decide) (fun K hK=>?_)
    refine goes_ func105 (by kernel_rfl) rfl #[.string a0_1] (by rfl) rfl rfl zm ?_
    with_reducible refine (Yj.calls kj2 a0_1 t439 _ A20.out).mono ?_
    rintro e w27 ⟨v440,rfl,ho0,hb⟩
    refine ⟨_,rfl,?_⟩
    replace HO438:=yV HO438 hb
    have HO441:=yL (fun k_=>k_≠gb431) ho0 (fun k_ hk_=>(zf BK431 hk_))
    replace BK431:=sK BK431 hb
    replace HB:=sB hb
    clear hb ho0
    obtain ⟨Ao28,co28,eo28⟩:=Kd.V_slice HO438.out
    (first|subst eo28|(injection eo28 with f1_ f2_ f3_;have f4_:=f1_.symm;have f5_:=f3_.symm;clear f1_ f2_ f3_;subst f4_;subst f5_))
    obtain ⟨Ao29,co29,eo29⟩:=Kd.V_slice HO441.out
    (first|subst eo29|(injection eo29 with f1_ f2_ f3_;have f4_:=f1_.symm;have f5_:=f3_.symm;clear f1_ f2_ f3_;subst f4_;subst f5_))
    refine hK.out _ _ ⟨zh BK431 0,zh BK431 1⟩ (fun hHeld=>?_)
    clear hK K
    refine nm ?_
    refine one_ (i:=5) (N:=some 43) #[true,true,true,true,true,true,false] rfl rfl (by kernel_rfl) (by decide) (fun K hK=>?_)
    refine goes_ func104 (by kernel_rfl) rfl #[.slice Ao28 t436.length co28,.slice Ao29 t439.length co29] (by rfl) rfl rfl zm ?_
    with_reducible refine (Yx.calls kj2 (fun k_=>k_≠gb431) _ _ t436 (fun k_=>k_≠gb431) _ _ t439 t442 _ HO438.out HO441.out A21.out).mono ?_
    rintro e w30 ⟨v443,rfl,ho0,hb⟩
    refine ⟨_,rfl,?_⟩
    replace HO438:=yV HO438 hb
    replace HO441:=yV HO441 hb
    have HO444:=yL (fun k_=>k_≠gb431) ho0 (fun k_ hk_=>Or.elim hk_ (fun hs_=>Or.elim hs_ (fun hs_=>hs_) (fun hs_=>hs_)) (fun hn_=>(zf BK431 hn_)))
    replace BK431:=sK BK431 hb
    replace HB:=sB hb
    clear hb ho0
    refine hK.out _ _ ⟨zh BK431 0,zh BK431 1⟩ (fun hHeld=>?_)
    clear hK K
    refine nm ?_
    refine pv 6 (some 5) ?_
    refine done_ (by kernel_rfl) ?_
    obtain ⟨Ao31,co31,rfl⟩:=Kd.V_slice HO444.out
    have p445:0≤(0:Int):=(by omega)
    have q445:0<(t442.length:Int):=zd
    obtain ⟨ad445,e445,hx445_0⟩:=Kd.at_int (Kd.V_reads' HO444.out).2.2 0 p445 q445
    cases e445
    have qi445:(0<t442.length)=True:=eq_true (by omega)
    (try rw [show ((0:Int)).toNat=0 from rfl] at hx445_0)
    (try rw [Addr.add_zero'] at hx445_0)
    replace p445:=eq_true p445
    replace q445:=eq_true q445
    try go_wp2
    go_ret
    exact ⟨ze,bw⟩
   subst c18
   replace H:=zT H
   obtain rfl:=Option.some.inj H
   go_wp2
   go_ret
   exact ⟨ze,bw⟩
def YI.f (k:Nat) (a0_0:ByteArray) (a0_1:ByteArray):Option (Bool×List Int×List Int):=(YH.f a0_0 (⟨#[45]⟩:ByteArray)).bind fun bt448=>((Yj.f k bt448.1).bind fun t450=>((Yj.f k a0_1).bind fun t453=>(some (bt448.2,t450,t453))))
def YI.T2:Bool×List (List Nat×List Nat):=(true,[([],[]),([],[]),([1],[1]),([],[]),([3],[3]),([4,2],[4]),([0,2,5],[0,2,5]),([6,5,0,1,2,3,4,5,6],[6])])
def YI.B2:List Nat:=[0,0,2,0,8,30,63,127]
theorem YI.tab2:rtab .any (opsOf Tryz.f58 2)=YI.T2:=by kernel_rfl
theorem YI.bits2:waitsOk YI.T2.2 YI.B2=true:=by kernel_rfl
theorem YI.calls (k:Nat) (a0_0:ByteArray) (a0_1:ByteArray) (r1:Bool) (r2:List Int) (r3:List Int) (w:World) (h:YI.f k a0_0 a0_1=some (r1,r2,r3)) :
  Calls Tryz.prog 58 #[.agg #[.string a0_0,.string a0_1]] w fun e w'=>∃ v1_ v2_:Value,e = .returned (.agg #[.bool r1,v1_,v2_])∧Kd.V (Kd.int .i64) 3 w' w.heap.size (fun k_=>(w.heap.size≤k_)) v1_ r2∧Kd.V (Kd.int .i64) 3 w' w.heap.size (fun k_=>(w.heap.size≤k_)) v2_ r3∧Below w.heap.size w w':=by
 have hu61:=underlying61
 have hu67:=underlying67
 have HB:=aZ (Below.refl w.heap.size w)
 have H:=h
 unfold YI.f at H
 clear h
 obtain ⟨⟨t448,t449⟩,A2,H⟩:=zB H
 (try dsimp only at H)
 obtain ⟨t450,A3,H⟩:=zB H
 obtain ⟨t453,A4,H⟩:=zB H
 obtain ⟨rfl,rfl,rfl⟩:=zo3 H
 go_enter func58,ntmps58
 try go_wp2_with (first|(refine box_ev 1 #[.string a0_0,.string a0_1] 61 ?_;intro gb446 hg w5 hbox hb;have BK446:=aZ hbox;have GE446:=sG hg;replace HB:=sB hb;clear hb hbox hg)|(refine box_ev 2 #[.bool false,.slice none 0 0,.slice none 0 0] 67 ?_;intro gb447 hg w6 hbox hb;have BK447:=aZ hbox;have GE447:=sG hg;replace HB:=sB hb;obtain ⟨NB446_447,NB447_446,BK446⟩:=sX hg hb BK446;clear hb hbox hg;have hnb7:=NB446_447.out;have hnc7:=NB447_446.out;obtain ⟨hcz8_0,hfz8_0⟩:=zc BK446 0 (.string a0_0) rfl;obtain ⟨hcz8_1,hfz8_1⟩:=zc BK446 1 (.string a0_1) rfl)|(refine zg (some 8) func102 #[.string a0_0,.string (⟨#[45]⟩:ByteArray)] ?_;(with_reducible refine (YH.calls a0_0 (⟨#[45]⟩:ByteArray) t448 t449 _ A2.out).mono ?_);rintro e w' ⟨rfl,⟨nd,rfl⟩⟩;refine ⟨_,rfl,?_⟩;(try (rw [drewN_self w6];generalize hq_:World.drewN w6 _=w6;have n0_:Aside0 (w6.heap[gb446]? = some (.cells #[.string a0_0,.string a0_1] 61 (0,0))):=⟨by rw [← hq_];exact (zb BK446)⟩;have n1_:Aside0 (w6.heap[gb447]? = some (.cells #[.bool false,.slice none 0 0,.slice none 0 0] 67 (0,0))):=⟨by rw [← hq_];exact (zb BK447)⟩;have n2_:Aside0 (Below w.heap.size w w6):=⟨by rw [← hq_];exact bw⟩;clear BK446 BK447 HB hq_;have BK446:=n0_;have BK447:=n1_;have HB:=n2_;clear n0_ n1_ n2_))))
 replace BK446:=aZ (blk_drew BK446.out)
 replace BK447:=aZ (blk_drew BK447.out)
 replace HB:=aZ (below_drew1 HB.out)
 refine start_ (n:=8) (S:=fun w'=>w'.cell? ⟨gb446,0,none⟩=some (.string a0_0)∧w'.cell? ⟨gb446,1,none⟩=some (.string a0_1)) (ds:=[]) #[false,false,false,false,false,false,false,false] (by kernel_rfl) rfl rfl ⟨zh BK446 0,zh BK446 1⟩ (fun hHeld=>?_);refine with_tabW YI.tab2 YI.bits2 (fun HT_ HW_=>?_)
 generalize w6.drew=w9 at BK446 BK447 HB hHeld ⊢
 refine pu 0 (some 11) HT_ ?_
 refine pu 1 (some 12) HT_ ?_
 refine pu 3 (some 14) HT_ ?_
 refine tk 4 (some 15) HT_ HW_ hHeld ?_
 refine one_ (i:=2) (N:=some 13) #[true,true,true,true,true,false,false,false] rfl rfl (one_of HT_.out (by kernel_rfl)) (by decide) (fun K hK=>?_)
 refine goes_ func105 (by kernel_rfl) rfl #[.string t448] (by rfl) rfl rfl zm ?_
 with_reducible refine (Yj.calls k t448 t450 _ A3.out).mono ?_
 rintro e w10 ⟨v451,rfl,ho0,hb⟩
 refine ⟨_,rfl,?_⟩
 have HO452:=yL (fun k_=>(w.heap.size≤k_)∧k_≠gb446∧k_≠gb447) ho0 (fun k_ hk_=>⟨(Nat.le_trans bs hk_),(zf BK446 hk_),(zf BK447 hk_)⟩)
 replace BK446:=sK BK446 hb
 replace BK447:=sK BK447 hb
 replace HB:=sB hb
 clear hb ho0
 refine hK.out _ _ ⟨zh BK446 0,zh BK446 1⟩ (fun hHeld=>?_)
 clear hK K
 refine nm ?_
 refine one_ (i:=5) (N:=some 16) #[true,true,true,true,true,true,false,false] rfl rfl (one_of HT_.out (by kernel_rfl)) (by decide) (fun K hK=>?_)
 refine goes_ func105 (by kernel_rfl) rfl #[.string a0_1] (by rfl) rfl rfl zm ?_
 with_reducible refine (Yj.calls k a0_1 t453 _ A4.out).mono ?_
 rintro e w11 ⟨v454,rfl,ho0,hb⟩
 refine ⟨_,rfl,?_⟩
 replace HO452:=yV HO452 hb
 have HO455:=yL (fun k_=>(w.heap.size≤k_)∧k_≠gb446∧k_≠gb447) ho0 (fun k_ hk_=>⟨(Nat.le_trans bs hk_),(zf BK446 hk_),(zf BK447 hk_)⟩)
 replace BK446:=sK BK446 hb
 replace BK447:=sK BK447 hb
 replace HB:=sB hb
 clear hb ho0
 obtain ⟨Ao12,co12,eo12⟩:=Kd.V_slice HO455.out
 (first|subst eo12|(injection eo12 with f1_ f2_ f3_;have f4_:=f1_.symm;have f5_:=f3_.symm;clear f1_ f2_ f3_;subst f4_;subst f5_))
 obtain ⟨Ao13,co13,eo13⟩:=Kd.V_slice HO452.out
 (first|subst eo13|(injection eo13 with f1_ f2_ f3_;have f4_:=f1_.symm;have f5_:=f3_.symm;clear f1_ f2_ f3_;subst f4_;subst f5_))
 refine hK.out _ _ ⟨zh BK446 0,zh BK446 1⟩ (fun hHeld=>?_)
 clear hK K
 refine nm ?_
 refine pu 6 (some 17) HT_ ?_
 refine one_ (i:=7) (N:=none) #[true,true,true,true,true,true,true,true] rfl rfl (one_of HT_.out (by kernel_rfl)) (by decide) (fun K hK=>?_)
 have hs14:w11.cell? ⟨gb447,0,none⟩=some (.bool false):=(blk_cell BK447.out 0).trans rfl
 have hfs14:=blk_frozen BK447.out 0
 have hns14_0:=NB446_447.out
 have hms14_0:=NB447_446.out
 have hs15:w11.cell? ⟨gb447,1,none⟩=some (.slice none 0 0):=(blk_cell BK447.out 1).trans rfl
 have hfs15:=blk_frozen BK447.out 1
 have hns15_0:=NB446_447.out
 have hms15_0:=NB447_446.out
 have hs16:w11.cell? ⟨gb447,2,none⟩=some (.slice none 0 0):=(blk_cell BK447.out 2).trans rfl
 have hfs16:=blk_frozen BK447.out 2
 have hns16_0:=NB446_447.out
 have hms16_0:=NB447_446.out
 refine skip_ (w1:=?_) (by rfl) rfl ?_ ?_
 rotate_left
 ·go_simp
  rfl
 refine hK.out _ _ ⟨((cell_far (p:=⟨gb447,_,none⟩) NB446_447.out _).trans (((cell_far (p:=⟨gb447,_,none⟩) NB446_447.out _).trans (((cell_far (p:=⟨gb447,_,none⟩) NB446_447.out _).trans (hHeld.1)))))),((cell_far (p:=⟨gb447,_,none⟩) NB446_447.out _).trans (((cell_far (p:=⟨gb447,_,none⟩) NB446_447.out _).trans (((cell_far (p:=⟨gb447,_,none⟩) NB446_447.out _).trans (hHeld.2))))))⟩ (fun hHeld=>?_)
 clear hK K
 refine done_ (done_of HT_.out (by kernel_rfl)) ?_
 try go_wp2
 refine bodyPost_ret (results_cell_row rfl _ _ gb447 67 #[.bool t449,.slice Ao13 t450.length co13,.slice Ao12 t453.length co12] (0,0) _ rfl (zp BK447) underlying67 rfl (by kernel_rfl)) rfl ?_
 exact ⟨_,_,ze,zF HO452,zF HO455,bw⟩
def YT.f (a0_0:Bool) (l0_1:List Int) (l0_2:List Int):Option (Int):=if (l0_1.length:Int)=0 then (some 0) else (if a0_0=true then (some (-1)) else (some 1))
theorem YT.calls (a0_0:Bool) (A0_1:Option Addr) (c0_1:Nat) (l0_1:List Int) (A0_2:Option Addr) (c0_2:Nat) (l0_2:List Int) (r:Int) (w:World) (hr0_1:Kd.C (Kd.int .i64) w A0_1 l0_1.length l0_1) (hc0_1:l0_1.length≤c0_1) (hr0_2:Kd.C (Kd.int .i64) w A0_2 l0_2.length l0_2) (hc0_2:l0_2.length≤c0_2) (h:YT.f a0_0 l0_1 l0_2=some r) :
  Calls Tryz.prog 61 #[.agg #[.bool a0_0,.slice A0_1 l0_1.length c0_1,.slice A0_2 l0_2.length c0_2]] w fun e w'=>e = .returned (.int .i64 r)∧Below w.heap.size w w':=by
 have hu67:=underlying67
 have HR0_1:=aZ hr0_1
 have HC0_1:=aZ hc0_1
 clear hr0_1 hc0_1
 have HR0_2:=aZ hr0_2
 have HC0_2:=aZ hc0_2
 clear hr0_2 hc0_2
 have HB:=aZ (Below.refl w.heap.size w)
 have H:=h
 unfold YT.f at H
 clear h
 by_cases c2:(l0_1.length:Int)=0
 case neg=>
  rw [if_neg c2] at H
  obtain ⟨c2b0,c2b1⟩:=zX c2
  have c2b2:¬ (l0_1=[]):=fun h_=>c2 (by rw [h_];rfl)
  by_cases c5:a0_0=true
  case neg=>
   replace c5:=Bool.eq_false_iff.mpr c5
   subst c5
   replace H:=zU H
   obtain rfl:=Option.some.inj H
   go_enter func61,ntmps61
   go_wp2_with (first|(refine box_ev 1 #[.bool false,.slice A0_1 l0_1.length c0_1,.slice A0_2 l0_2.length c0_2] 67 ?_;intro gb456 hg w8 hbox hb;have BK456:=aZ hbox;have GE456:=sG hg;replace HB:=sB hb;clear hb hbox hg;obtain ⟨hcz9_0,hfz9_0⟩:=zc BK456 0 (.bool false) rfl;obtain ⟨hcz9_1,hfz9_1⟩:=zc BK456 1 (.slice A0_1 l0_1.length c0_1) rfl;obtain ⟨hcz9_2,hfz9_2⟩:=zc BK456 2 (.slice A0_2 l0_2.length c0_2) rfl))
   go_ret
   exact ⟨ze,bw⟩
  subst c5
  replace H:=zT H
  obtain rfl:=Option.some.inj H
  go_enter func61,ntmps61
  go_wp2_with (first|(refine box_ev 1 #[.bool true,.slice A0_1 l0_1.length c0_1,.slice A0_2 l0_2.length c0_2] 67 ?_;intro gb456 hg w6 hbox hb;have BK456:=aZ hbox;have GE456:=sG hg;replace HB:=sB hb;clear hb hbox hg;obtain ⟨hcz7_0,hfz7_0⟩:=zc BK456 0 (.bool true) rfl;obtain ⟨hcz7_1,hfz7_1⟩:=zc BK456 1 (.slice A0_1 l0_1.length c0_1) rfl;obtain ⟨hcz7_2,hfz7_2⟩:=zc BK456 2 (.slice A0_2 l0_2.length c0_2) rfl))
  go_ret
  exact ⟨ze,bw⟩
 rw [if_pos c2] at H
 obtain ⟨c2b0,c2b1⟩:=zY c2
 clear c2
 obtain rfl:=Option.some.inj H
 go_enter func61,ntmps61
 go_wp2_with (first|(refine box_ev 1 #[.bool a0_0,.slice A0_1 l0_1.length c0_1,.slice A0_2 l0_2.length c0_2] 67 ?_;intro gb456 hg w3 hbox hb;have BK456:=aZ hbox;have GE456:=sG hg;replace HB:=sB hb;clear hb hbox hg;obtain ⟨hcz4_0,hfz4_0⟩:=zc BK456 0 (.bool a0_0) rfl;obtain ⟨hcz4_1,hfz4_1⟩:=zc BK456 1 (.slice A0_1 l0_1.length c0_1) rfl;obtain ⟨hcz4_2,hfz4_2⟩:=zc BK456 2 (.slice A0_2 l0_2.length c0_2) rfl))
 go_ret
 exact ⟨ze,bw⟩
def Y00.f (k:Nat) (a0_0:Bool) (l0_1:List Int) (l0_2:List Int) (a1_0:Bool) (l1_1:List Int) (l1_2:List Int):Option (Bool×List Int×List Int):=(Ye.f k l0_1 l1_1).bind fun t460=>((Ye.f k l0_2 l1_2).bind fun t463=>((Yz.f k (a0_0 != a1_0) t460 t463).bind fun bt466=>(some (bt466.1,bt466.2.1,bt466.2.2))))
def Y00.T1:Bool×List (List Nat×List Nat):=(true,[([],[]),([0],[0]),([],[]),([2],[2]),([1,3],[1,3]),([],[]),([5],[5]),([],[]),([7],[7]),([6,8],[6,8]),([],[]),([10],[10]),([],[]),([12],[12]),([11,13,9],[11,13]),([4,9,14,14],[4,9,14]),([15,15,0,1,2,3,4,5,6,7,8,9,10,11,12,13,14,15],[15])])
def Y00.B1:List Nat:=[0,1,0,4,15,0,32,0,128,480,0,1024,0,4096,16352,32767,65535]
theorem Y00.tab1:rtab .any (opsOf Tryz.f111 1)=Y00.T1:=by kernel_rfl
theorem Y00.bits1:waitsOk Y00.T1.2 Y00.B1=true:=by kernel_rfl
theorem Y00.calls (k:Nat) (a0_0:Bool) (A0_1:Option Addr) (c0_1:Nat) (l0_1:List Int) (A0_2:Option Addr) (c0_2:Nat) (l0_2:List Int) (a1_0:Bool) (A1_1:Option Addr) (c1_1:Nat) (l1_1:List Int) (A1_2:Option Addr) (c1_2:Nat) (l1_2:List Int) (r1:Bool) (r2:List Int) (r3:List Int) (w:World) (hr0_1:Kd.C (Kd.int .u32) w A0_1 l0_1.length l0_1) (hc0_1:l0_1.length≤c0_1) (hr0_2:Kd.C (Kd.int .u32) w A0_2 l0_2.length l0_2) (hc0_2:l0_2.length≤c0_2) (hr1_1:Kd.C (Kd.int .u32) w A1_1 l1_1.length l1_1) (hc1_1:l1_1.length≤c1_1) (hr1_2:Kd.C (Kd.int .u32) w A1_2 l1_2.length l1_2) (hc1_2:l1_2.length≤c1_2) (h:Y00.f k a0_0 l0_1 l0_2 a1_0 l1_1 l1_2=some (r1,r2,r3)) :
  Calls Tryz.prog 111 #[.agg #[.bool a0_0,.slice A0_1 l0_1.length c0_1,.slice A0_2 l0_2.length c0_2],.agg #[.bool a1_0,.slice A1_1 l1_1.length c1_1,.slice A1_2 l1_2.length c1_2]] w fun e w'=>∃ v1_ v2_:Value,e = .returned (.agg #[.bool r1,v1_,v2_])∧Kd.V (Kd.int .u32) 97 w' w.heap.size (fun k_=>(w.heap.size≤k_)) v1_ r2∧Kd.V (Kd.int .u32) 97 w' w.heap.size (fun k_=>(w.heap.size≤k_)) v2_ r3∧Below w.heap.size w w':=by
 have hu103:=underlying103
 have HR0_1:=aZ hr0_1
 have HC0_1:=aZ hc0_1
 clear hr0_1 hc0_1
 have HR0_2:=aZ hr0_2
 have HC0_2:=aZ hc0_2
 clear hr0_2 hc0_2
 have HR1_1:=aZ hr1_1
 have HC1_1:=aZ hc1_1
 clear hr1_1 hc1_1
 have HR1_2:=aZ hr1_2
 have HC1_2:=aZ hc1_2
 clear hr1_2 hc1_2
 have HB:=aZ (Below.refl w.heap.size w)
 have H:=h
 unfold Y00.f at H
 clear h
 obtain ⟨t460,A3,H⟩:=zB H
 obtain ⟨t463,A4,H⟩:=zB H
 obtain ⟨⟨t466,t467,t470⟩,A5,H⟩:=zB H
 (try dsimp only at H)
 obtain ⟨rfl,rfl,rfl⟩:=zo3 H
 go_enter func111,ntmps111
 try go_wp2_with (first|(refine box_ev 2 #[.bool a0_0,.slice A0_1 l0_1.length c0_1,.slice A0_2 l0_2.length c0_2] 103 ?_;intro gb457 hg w6 hbox hb;have BK457:=aZ hbox;have GE457:=sG hg;replace HB:=sB hb;clear hb hbox hg)|(refine box_ev 3 #[.bool a1_0,.slice A1_1 l1_1.length c1_1,.slice A1_2 l1_2.length c1_2] 103 ?_;intro gb458 hg w7 hbox hb;have BK458:=aZ hbox;have GE458:=sG hg;replace HB:=sB hb;obtain ⟨NB457_458,NB458_457,BK457⟩:=sX hg hb BK457;clear hb hbox hg)|(refine box_ev 4 #[.bool false,.slice none 0 0,.slice none 0 0] 103 ?_;intro gb459 hg w8 hbox hb;have BK459:=aZ hbox;have GE459:=sG hg;replace HB:=sB hb;obtain ⟨NB457_459,NB459_457,BK457⟩:=sX hg hb BK457;obtain ⟨NB458_459,NB459_458,BK458⟩:=sX hg hb BK458;clear hb hbox hg))
 replace BK457:=aZ (blk_drew BK457.out)
 replace BK458:=aZ (blk_drew BK458.out)
 replace BK459:=aZ (blk_drew BK459.out)
 replace HB:=aZ (below_drew1 HB.out)
 refine start_ (n:=17) (S:=fun w'=>w'.cell? ⟨gb457,0,none⟩=some (.bool a0_0)∧w'.cell? ⟨gb457,1,none⟩=some (.slice A0_1 l0_1.length c0_1)∧w'.cell? ⟨gb457,2,none⟩=some (.slice A0_2 l0_2.length c0_2)∧w'.cell? ⟨gb458,0,none⟩=some (.bool a1_0)∧w'.cell? ⟨gb458,1,none⟩=some (.slice A1_1 l1_1.length c1_1)∧w'.cell? ⟨gb458,2,none⟩=some (.slice A1_2 l1_2.length c1_2)) (ds:=[]) #[false,false,false,false,false,false,false,false,false,false,false,false,false,false,false,false,false] (by kernel_rfl) rfl rfl ⟨zh BK457 0,zh BK457 1,zh BK457 2,zh BK458 0,zh BK458 1,zh BK458 2⟩ (fun hHeld=>?_);refine with_tabW Y00.tab1 Y00.bits1 (fun HT_ HW_=>?_)
 generalize w8.drew=w9 at BK457 BK458 BK459 HB hHeld ⊢
 refine pu 0 (some 5) HT_ ?_
 refine pu 2 (some 7) HT_ ?_
 refine pu 5 (some 10) HT_ ?_
 refine pu 7 (some 12) HT_ ?_
 refine pu 10 (some 15) HT_ ?_
 refine pu 12 (some 17) HT_ ?_
 refine tk 1 (some 6) HT_ HW_ hHeld ?_
 refine tk 3 (some 8) HT_ HW_ hHeld ?_
 refine pu 4 (some 9) HT_ ?_
 refine tk 6 (some 11) HT_ HW_ hHeld ?_
 refine tk 8 (some 13) HT_ HW_ hHeld ?_
 refine tk 11 (some 16) HT_ HW_ hHeld ?_
 refine tk 13 (some 18) HT_ HW_ hHeld ?_
 refine one_ (i:=9) (N:=some 14) #[true,true,true,true,true,true,true,true,true,true,true,true,true,true,false,false,false] rfl rfl (one_of HT_.out (by kernel_rfl)) (by decide) (fun K hK=>?_)
 refine goes_ func149 (by kernel_rfl) rfl #[.slice A0_1 l0_1.length c0_1,.slice A1_1 l1_1.length c1_1] (by rfl) rfl rfl zm ?_
 with_reducible refine (Ye.calls k _ _ l0_1 _ _ l1_1 t460 _ (zC (Kd.C_below HR0_1.out HB.out)) HC0_1.out (zC (Kd.C_below HR1_1.out HB.out)) HC1_1.out A3.out).mono ?_
 rintro e w10 ⟨v461,rfl,ho0,hb⟩
 refine ⟨_,rfl,?_⟩
 have HO462:=yL (fun k_=>(w.heap.size≤k_)∧k_≠gb457∧k_≠gb458∧k_≠gb459) ho0 (fun k_ hk_=>⟨(Nat.le_trans bs hk_),(zf BK457 hk_),(zf BK458 hk_),(zf BK459 hk_)⟩)
 replace BK457:=sK BK457 hb
 replace BK458:=sK BK458 hb
 replace BK459:=sK BK459 hb
 replace HB:=sB hb
 clear hb ho0
 refine hK.out _ _ ⟨zh BK457 0,zh BK457 1,zh BK457 2,zh BK458 0,zh BK458 1,zh BK458 2⟩ (fun hHeld=>?_)
 clear hK K
 refine nm ?_
 refine one_ (i:=14) (N:=some 19) #[true,true,true,true,true,true,true,true,true,true,true,true,true,true,true,false,false] rfl rfl (one_of HT_.out (by kernel_rfl)) (by decide) (fun K hK=>?_)
 refine goes_ func149 (by kernel_rfl) rfl #[.slice A0_2 l0_2.length c0_2,.slice A1_2 l1_2.length c1_2] (by rfl) rfl rfl zm ?_
 with_reducible refine (Ye.calls k _ _ l0_2 _ _ l1_2 t463 _ (zC (Kd.C_below HR0_2.out HB.out)) HC0_2.out (zC (Kd.C_below HR1_2.out HB.out)) HC1_2.out A4.out).mono ?_
 rintro e w11 ⟨v464,rfl,ho0,hb⟩
 refine ⟨_,rfl,?_⟩
 replace HO462:=yV HO462 hb
 have HO465:=yL (fun k_=>(w.heap.size≤k_)∧k_≠gb457∧k_≠gb458∧k_≠gb459) ho0 (fun k_ hk_=>⟨(Nat.le_trans bs hk_),(zf BK457 hk_),(zf BK458 hk_),(zf BK459 hk_)⟩)
 replace BK457:=sK BK457 hb
 replace BK458:=sK BK458 hb
 replace BK459:=sK BK459 hb
 replace HB:=sB hb
 clear hb ho0
 obtain ⟨Ao12,co12,eo12⟩:=Kd.V_slice HO462.out
 (first|subst eo12|(injection eo12 with f1_ f2_ f3_;have f4_:=f1_.symm;have f5_:=f3_.symm;clear f1_ f2_ f3_;subst f4_;subst f5_))
 obtain ⟨Ao13,co13,eo13⟩:=Kd.V_slice HO465.out
 (first|subst eo13|(injection eo13 with f1_ f2_ f3_;have f4_:=f1_.symm;have f5_:=f3_.symm;clear f1_ f2_ f3_;subst f4_;subst f5_))
 refine hK.out _ _ ⟨zh BK457 0,zh BK457 1,zh BK457 2,zh BK458 0,zh BK458 1,zh BK458 2⟩ (fun hHeld=>?_)
 clear hK K
 refine nm ?_
 refine one_ (i:=15) (N:=some 20) #[true,true,true,true,true,true,true,true,true,true,true,true,true,true,true,true,false] rfl rfl (one_of HT_.out (by kernel_rfl)) (by decide) (fun K hK=>?_)
 refine goes_ func148 (by kernel_rfl) rfl #[.bool (a0_0 != a1_0),.slice Ao12 t460.length co12,.slice Ao13 t463.length co13] (by rfl) rfl rfl zm ?_
 with_reducible refine (Yz.calls k (a0_0 != a1_0) (fun k_=>((w.heap.size≤k_)∧(k_≠gb457∧(k_≠gb458∧k_≠gb459)))) _ _ t460 (fun k_=>((w.heap.size≤k_)∧(k_≠gb457∧(k_≠gb458∧k_≠gb459)))) _ _ t463 t466 t467 t470 _ HO462.out HO465.out A5.out).mono ?_
 rintro e w14 ⟨v468,v471,rfl,ho0,ho1,hb⟩
 refine ⟨_,rfl,?_⟩
 replace HO462:=yV HO462 hb
 replace HO465:=yV HO465 hb
 have HO469:=yL (fun k_=>(w.heap.size≤k_)∧k_≠gb457∧k_≠gb458∧k_≠gb459) ho0 (fun k_ hk_=>⟨Or.elim hk_ (fun hs_=>Or.elim hs_ (fun hs_=>hs_.1) (fun hs_=>hs_.1)) (fun hn_=>(Nat.le_trans bs hn_)),Or.elim hk_ (fun hs_=>Or.elim hs_ (fun hs_=>hs_.2.1) (fun hs_=>hs_.2.1)) (fun hn_=>(zf BK457 hn_)),Or.elim hk_ (fun hs_=>Or.elim hs_ (fun hs_=>hs_.2.2.1) (fun hs_=>hs_.2.2.1)) (fun hn_=>(zf BK458 hn_)),Or.elim hk_ (fun hs_=>Or.elim hs_ (fun hs_=>hs_.2.2.2) (fun hs_=>hs_.2.2.2)) (fun hn_=>(zf BK459 hn_))⟩)
 have HO472:=yL (fun k_=>(w.heap.size≤k_)∧k_≠gb457∧k_≠gb458∧k_≠gb459) ho1 (fun k_ hk_=>⟨Or.elim hk_ (fun hs_=>Or.elim hs_ (fun hs_=>hs_.1) (fun hs_=>hs_.1)) (fun hn_=>(Nat.le_trans bs hn_)),Or.elim hk_ (fun hs_=>Or.elim hs_ (fun hs_=>hs_.2.1) (fun hs_=>hs_.2.1)) (fun hn_=>(zf BK457 hn_)),Or.elim hk_ (fun hs_=>Or.elim hs_ (fun hs_=>hs_.2.2.1) (fun hs_=>hs_.2.2.1)) (fun hn_=>(zf BK458 hn_)),Or.elim hk_ (fun hs_=>Or.elim hs_ (fun hs_=>hs_.2.2.2) (fun hs_=>hs_.2.2.2)) (fun hn_=>(zf BK459 hn_))⟩)
 replace BK457:=sK BK457 hb
 replace BK458:=sK BK458 hb
 replace BK459:=sK BK459 hb
 replace HB:=sB hb
 clear hb ho0 ho1
 obtain ⟨Ao16,co16,eo16⟩:=Kd.V_slice HO469.out
 (first|subst eo16|(injection eo16 with f1_ f2_ f3_;have f4_:=f1_.symm;have f5_:=f3_.symm;clear f1_ f2_ f3_;subst f4_;subst f5_))
 obtain ⟨Ao18,co18,eo18⟩:=Kd.V_slice HO472.out
 (first|subst eo18|(injection eo18 with f1_ f2_ f3_;have f4_:=f1_.symm;have f5_:=f3_.symm;clear f1_ f2_ f3_;subst f4_;subst f5_))
 refine hK.out _ _ ⟨zh BK457 0,zh BK457 1,zh BK457 2,zh BK458 0,zh BK458 1,zh BK458 2⟩ (fun hHeld=>?_)
 clear hK K
 refine nm ?_
 refine one_ (i:=16) (N:=none) #[true,true,true,true,true,true,true,true,true,true,true,true,true,true,true,true,true] rfl rfl (one_of HT_.out (by kernel_rfl)) (by decide) (fun K hK=>?_)
 have hs15:w14.cell? ⟨gb459,0,none⟩=some (.bool false):=(blk_cell BK459.out 0).trans rfl
 have hfs15:=blk_frozen BK459.out 0
 have hns15_0:=NB457_459.out
 have hns15_1:=NB458_459.out
 have hms15_0:=NB459_457.out
 have hms15_1:=NB459_458.out
 have hs17:w14.cell? ⟨gb459,1,none⟩=some (.slice none 0 0):=(blk_cell BK459.out 1).trans rfl
 have hfs17:=blk_frozen BK459.out 1
 have hns17_0:=NB457_459.out
 have hns17_1:=NB458_459.out
 have hms17_0:=NB459_457.out
 have hms17_1:=NB459_458.out
 have hs19:w14.cell? ⟨gb459,2,none⟩=some (.slice none 0 0):=(blk_cell BK459.out 2).trans rfl
 have hfs19:=blk_frozen BK459.out 2
 have hns19_0:=NB457_459.out
 have hns19_1:=NB458_459.out
 have hms19_0:=NB459_457.out
 have hms19_1:=NB459_458.out
 refine skip_ (w1:=?_) (by rfl) rfl ?_ ?_
 rotate_left
 ·go_simp
  rfl
 refine hK.out _ _ ⟨((cell_far (p:=⟨gb459,_,none⟩) NB457_459.out _).trans (((cell_far (p:=⟨gb459,_,none⟩) NB457_459.out _).trans (((cell_far (p:=⟨gb459,_,none⟩) NB457_459.out _).trans (hHeld.1)))))),((cell_far (p:=⟨gb459,_,none⟩) NB457_459.out _).trans (((cell_far (p:=⟨gb459,_,none⟩) NB457_459.out _).trans (((cell_far (p:=⟨gb459,_,none⟩) NB457_459.out _).trans (hHeld.2.1)))))),((cell_far (p:=⟨gb459,_,none⟩) NB457_459.out _).trans (((cell_far (p:=⟨gb459,_,none⟩) NB457_459.out _).trans (((cell_far (p:=⟨gb459,_,none⟩) NB457_459.out _).trans (hHeld.2.2.1)))))),((cell_far (p:=⟨gb459,_,none⟩) NB458_459.out _).trans (((cell_far (p:=⟨gb459,_,none⟩) NB458_459.out _).trans (((cell_far (p:=⟨gb459,_,none⟩) NB458_459.out _).trans (hHeld.2.2.2.1)))))),((cell_far (p:=⟨gb459,_,none⟩) NB458_459.out _).trans (((cell_far (p:=⟨gb459,_,none⟩) NB458_459.out _).trans (((cell_far (p:=⟨gb459,_,none⟩) NB458_459.out _).trans (hHeld.2.2.2.2.1)))))),((cell_far (p:=⟨gb459,_,none⟩) NB458_459.out _).trans (((cell_far (p:=⟨gb459,_,none⟩) NB458_459.out _).trans (((cell_far (p:=⟨gb459,_,none⟩) NB458_459.out _).trans (hHeld.2.2.2.2.2))))))⟩ (fun hHeld=>?_)
 clear hK K
 refine done_ (done_of HT_.out (by kernel_rfl)) ?_
 try go_wp2
 refine bodyPost_ret (results_cell_row rfl _ _ gb459 103 #[.bool t466,.slice Ao16 t467.length co16,.slice Ao18 t470.length co18] (0,0) _ rfl (zp BK459) underlying103 rfl (by kernel_rfl)) rfl ?_
 exact ⟨_,_,ze,zF HO469,zF HO472,bw⟩
def Y0b.f (k:Nat) (a0_0:ByteArray) (a0_1:ByteArray):Option (Bool×List Int×List Int):=(YH.f a0_0 (⟨#[45]⟩:ByteArray)).bind fun bt475=>((Yr.f k bt475.1).bind fun t477=>((Yr.f k a0_1).bind fun t480=>(some (bt475.2,t477,t480))))
def Y0b.T2:Bool×List (List Nat×List Nat):=(true,[([],[]),([],[]),([1],[1]),([],[]),([3],[3]),([4,2],[4]),([0,2,5],[0,2,5]),([6,5,0,1,2,3,4,5,6],[6])])
def Y0b.B2:List Nat:=[0,0,2,0,8,30,63,127]
theorem Y0b.tab2:rtab .any (opsOf Tryz.f127 2)=Y0b.T2:=by kernel_rfl
theorem Y0b.bits2:waitsOk Y0b.T2.2 Y0b.B2=true:=by kernel_rfl
theorem Y0b.calls (k:Nat) (a0_0:ByteArray) (a0_1:ByteArray) (r1:Bool) (r2:List Int) (r3:List Int) (w:World) (h:Y0b.f k a0_0 a0_1=some (r1,r2,r3)) :
  Calls Tryz.prog 127 #[.agg #[.string a0_0,.string a0_1]] w fun e w'=>∃ v1_ v2_:Value,e = .returned (.agg #[.bool r1,v1_,v2_])∧Kd.V (Kd.int .u32) 97 w' w.heap.size (fun k_=>(w.heap.size≤k_)) v1_ r2∧Kd.V (Kd.int .u32) 97 w' w.heap.size (fun k_=>(w.heap.size≤k_)) v2_ r3∧Below w.heap.size w w':=by
 have hu61:=underlying61
 have hu103:=underlying103
 have HB:=aZ (Below.refl w.heap.size w)
 have H:=h
 unfold Y0b.f at H
 clear h
 obtain ⟨⟨t475,t476⟩,A2,H⟩:=zB H
 (try dsimp only at H)
 obtain ⟨t477,A3,H⟩:=zB H
 obtain ⟨t480,A4,H⟩:=zB H
 obtain ⟨rfl,rfl,rfl⟩:=zo3 H
 go_enter func127,ntmps127
 try go_wp2_with (first|(refine box_ev 1 #[.string a0_0,.string a0_1] 61 ?_;intro gb473 hg w5 hbox hb;have BK473:=aZ hbox;have GE473:=sG hg;replace HB:=sB hb;clear hb hbox hg)|(refine box_ev 2 #[.bool false,.slice none 0 0,.slice none 0 0] 103 ?_;intro gb474 hg w6 hbox hb;have BK474:=aZ hbox;have GE474:=sG hg;replace HB:=sB hb;obtain ⟨NB473_474,NB474_473,BK473⟩:=sX hg hb BK473;clear hb hbox hg;have hnb7:=NB473_474.out;have hnc7:=NB474_473.out;obtain ⟨hcz8_0,hfz8_0⟩:=zc BK473 0 (.string a0_0) rfl;obtain ⟨hcz8_1,hfz8_1⟩:=zc BK473 1 (.string a0_1) rfl)|(refine zg (some 8) func102 #[.string a0_0,.string (⟨#[45]⟩:ByteArray)] ?_;(with_reducible refine (YH.calls a0_0 (⟨#[45]⟩:ByteArray) t475 t476 _ A2.out).mono ?_);rintro e w' ⟨rfl,⟨nd,rfl⟩⟩;refine ⟨_,rfl,?_⟩;(try (rw [drewN_self w6];generalize hq_:World.drewN w6 _=w6;have n0_:Aside0 (w6.heap[gb473]? = some (.cells #[.string a0_0,.string a0_1] 61 (0,0))):=⟨by rw [← hq_];exact (zb BK473)⟩;have n1_:Aside0 (w6.heap[gb474]? = some (.cells #[.bool false,.slice none 0 0,.slice none 0 0] 103 (0,0))):=⟨by rw [← hq_];exact (zb BK474)⟩;have n2_:Aside0 (Below w.heap.size w w6):=⟨by rw [← hq_];exact bw⟩;clear BK473 BK474 HB hq_;have BK473:=n0_;have BK474:=n1_;have HB:=n2_;clear n0_ n1_ n2_))))
 replace BK473:=aZ (blk_drew BK473.out)
 replace BK474:=aZ (blk_drew BK474.out)
 replace HB:=aZ (below_drew1 HB.out)
 refine start_ (n:=8) (S:=fun w'=>w'.cell? ⟨gb473,0,none⟩=some (.string a0_0)∧w'.cell? ⟨gb473,1,none⟩=some (.string a0_1)) (ds:=[]) #[false,false,false,false,false,false,false,false] (by kernel_rfl) rfl rfl ⟨zh BK473 0,zh BK473 1⟩ (fun hHeld=>?_);refine with_tabW Y0b.tab2 Y0b.bits2 (fun HT_ HW_=>?_)
 generalize w6.drew=w9 at BK473 BK474 HB hHeld ⊢
 refine pu 0 (some 11) HT_ ?_
 refine pu 1 (some 12) HT_ ?_
 refine pu 3 (some 14) HT_ ?_
 refine tk 4 (some 15) HT_ HW_ hHeld ?_
 refine one_ (i:=2) (N:=some 13) #[true,true,true,true,true,false,false,false] rfl rfl (one_of HT_.out (by kernel_rfl)) (by decide) (fun K hK=>?_)
 refine goes_ func108 (by kernel_rfl) rfl #[.string t475] (by rfl) rfl rfl zm ?_
 with_reducible refine (Yr.calls k t475 t477 _ A3.out).mono ?_
 rintro e w10 ⟨v478,rfl,ho0,hb⟩
 refine ⟨_,rfl,?_⟩
 have HO479:=yL (fun k_=>(w.heap.size≤k_)∧k_≠gb473∧k_≠gb474) ho0 (fun k_ hk_=>⟨(Nat.le_trans bs hk_),(zf BK473 hk_),(zf BK474 hk_)⟩)
 replace BK473:=sK BK473 hb
 replace BK474:=sK BK474 hb
 replace HB:=sB hb
 clear hb ho0
 refine hK.out _ _ ⟨zh BK473 0,zh BK473 1⟩ (fun hHeld=>?_)
 clear hK K
 refine nm ?_
 refine one_ (i:=5) (N:=some 16) #[true,true,true,true,true,true,false,false] rfl rfl (one_of HT_.out (by kernel_rfl)) (by decide) (fun K hK=>?_)
 refine goes_ func108 (by kernel_rfl) rfl #[.string a0_1] (by rfl) rfl rfl zm ?_
 with_reducible refine (Yr.calls k a0_1 t480 _ A4.out).mono ?_
 rintro e w11 ⟨v481,rfl,ho0,hb⟩
 refine ⟨_,rfl,?_⟩
 replace HO479:=yV HO479 hb
 have HO482:=yL (fun k_=>(w.heap.size≤k_)∧k_≠gb473∧k_≠gb474) ho0 (fun k_ hk_=>⟨(Nat.le_trans bs hk_),(zf BK473 hk_),(zf BK474 hk_)⟩)
 replace BK473:=sK BK473 hb
 replace BK474:=sK BK474 hb
 replace HB:=sB hb
 clear hb ho0
 obtain ⟨Ao12,co12,eo12⟩:=Kd.V_slice HO482.out
 (first|subst eo12|(injection eo12 with f1_ f2_ f3_;have f4_:=f1_.symm;have f5_:=f3_.symm;clear f1_ f2_ f3_;subst f4_;subst f5_))
 obtain ⟨Ao13,co13,eo13⟩:=Kd.V_slice HO479.out
 (first|subst eo13|(injection eo13 with f1_ f2_ f3_;have f4_:=f1_.symm;have f5_:=f3_.symm;clear f1_ f2_ f3_;subst f4_;subst f5_))
 refine hK.out _ _ ⟨zh BK473 0,zh BK473 1⟩ (fun hHeld=>?_)
 clear hK K
 refine nm ?_
 refine pu 6 (some 17) HT_ ?_
 refine one_ (i:=7) (N:=none) #[true,true,true,true,true,true,true,true] rfl rfl (one_of HT_.out (by kernel_rfl)) (by decide) (fun K hK=>?_)
 have hs14:w11.cell? ⟨gb474,0,none⟩=some (.bool false):=(blk_cell BK474.out 0).trans rfl
 have hfs14:=blk_frozen BK474.out 0
 have hns14_0:=NB473_474.out
 have hms14_0:=NB474_473.out
 have hs15:w11.cell? ⟨gb474,1,none⟩=some (.slice none 0 0):=(blk_cell BK474.out 1).trans rfl
 have hfs15:=blk_frozen BK474.out 1
 have hns15_0:=NB473_474.out
 have hms15_0:=NB474_473.out
 have hs16:w11.cell? ⟨gb474,2,none⟩=some (.slice none 0 0):=(blk_cell BK474.out 2).trans rfl
 have hfs16:=blk_frozen BK474.out 2
 have hns16_0:=NB473_474.out
 have hms16_0:=NB474_473.out
 refine skip_ (w1:=?_) (by rfl) rfl ?_ ?_
 rotate_left
 ·go_simp
  rfl
 refine hK.out _ _ ⟨((cell_far (p:=⟨gb474,_,none⟩) NB473_474.out _).trans (((cell_far (p:=⟨gb474,_,none⟩) NB473_474.out _).trans (((cell_far (p:=⟨gb474,_,none⟩) NB473_474.out _).trans (hHeld.1)))))),((cell_far (p:=⟨gb474,_,none⟩) NB473_474.out _).trans (((cell_far (p:=⟨gb474,_,none⟩) NB473_474.out _).trans (((cell_far (p:=⟨gb474,_,none⟩) NB473_474.out _).trans (hHeld.2))))))⟩ (fun hHeld=>?_)
 clear hK K
 refine done_ (done_of HT_.out (by kernel_rfl)) ?_
 try go_wp2
 refine bodyPost_ret (results_cell_row rfl _ _ gb474 103 #[.bool t476,.slice Ao13 t477.length co13,.slice Ao12 t480.length co12] (0,0) _ rfl (zp BK474) underlying103 rfl (by kernel_rfl)) rfl ?_
 exact ⟨_,_,ze,zF HO479,zF HO482,bw⟩
def Y0a.f (a0_0:Bool) (l0_1:List Int) (l0_2:List Int):Option (Int):=(YM.f l0_1).bind fun t484=>(if t484=true then (some 0) else (if a0_0=true then (some (-1)) else (some 1)))
theorem Y0a.calls (a0_0:Bool) (A0_1:Option Addr) (c0_1:Nat) (l0_1:List Int) (A0_2:Option Addr) (c0_2:Nat) (l0_2:List Int) (r:Int) (w:World) (hr0_1:Kd.C (Kd.int .u32) w A0_1 l0_1.length l0_1) (hc0_1:l0_1.length≤c0_1) (hr0_2:Kd.C (Kd.int .u32) w A0_2 l0_2.length l0_2) (hc0_2:l0_2.length≤c0_2) (h:Y0a.f a0_0 l0_1 l0_2=some r) :
  Calls Tryz.prog 128 #[.agg #[.bool a0_0,.slice A0_1 l0_1.length c0_1,.slice A0_2 l0_2.length c0_2]] w fun e w'=>e = .returned (.int .i64 r)∧Below w.heap.size w w':=by
 have hu103:=underlying103
 have HR0_1:=aZ hr0_1
 have HC0_1:=aZ hc0_1
 clear hr0_1 hc0_1
 have HR0_2:=aZ hr0_2
 have HC0_2:=aZ hc0_2
 clear hr0_2 hc0_2
 have HB:=aZ (Below.refl w.heap.size w)
 have H:=h
 unfold Y0a.f at H
 clear h
 obtain ⟨t484,A2,H⟩:=zB H
 by_cases c3:t484=true
 case neg=>
  replace c3:=Bool.eq_false_iff.mpr c3
  subst c3
  replace H:=zU H
  by_cases c6:a0_0=true
  case neg=>
   replace c6:=Bool.eq_false_iff.mpr c6
   subst c6
   replace H:=zU H
   obtain rfl:=Option.some.inj H
   go_enter func128,ntmps128
   go_wp2_with (first|(refine box_ev 1 #[.bool false,.slice A0_1 l0_1.length c0_1,.slice A0_2 l0_2.length c0_2] 103 ?_;intro gb483 hg w9 hbox hb;have BK483:=aZ hbox;have GE483:=sG hg;replace HB:=sB hb;clear hb hbox hg;obtain ⟨hcz10_0,hfz10_0⟩:=zc BK483 0 (.bool false) rfl;obtain ⟨hcz10_1,hfz10_1⟩:=zc BK483 1 (.slice A0_1 l0_1.length c0_1) rfl;obtain ⟨hcz10_2,hfz10_2⟩:=zc BK483 2 (.slice A0_2 l0_2.length c0_2) rfl)|(refine zg (some 6) func151 #[.slice A0_1 l0_1.length c0_1] ?_;(with_reducible refine (YM.calls _ _ l0_1 false _ (zC (Kd.C_below HR0_1.out HB.out)) HC0_1.out A2.out).mono ?_);rintro e w' ⟨rfl,⟨nd,rfl⟩⟩;refine ⟨_,rfl,?_⟩))
   go_ret
   exact ⟨ze,bw⟩
  subst c6
  replace H:=zT H
  obtain rfl:=Option.some.inj H
  go_enter func128,ntmps128
  go_wp2_with (first|(refine box_ev 1 #[.bool true,.slice A0_1 l0_1.length c0_1,.slice A0_2 l0_2.length c0_2] 103 ?_;intro gb483 hg w7 hbox hb;have BK483:=aZ hbox;have GE483:=sG hg;replace HB:=sB hb;clear hb hbox hg;obtain ⟨hcz8_0,hfz8_0⟩:=zc BK483 0 (.bool true) rfl;obtain ⟨hcz8_1,hfz8_1⟩:=zc BK483 1 (.slice A0_1 l0_1.length c0_1) rfl;obtain ⟨hcz8_2,hfz8_2⟩:=zc BK483 2 (.slice A0_2 l0_2.length c0_2) rfl)|(refine zg (some 6) func151 #[.slice A0_1 l0_1.length c0_1] ?_;(with_reducible refine (YM.calls _ _ l0_1 false _ (zC (Kd.C_below HR0_1.out HB.out)) HC0_1.out A2.out).mono ?_);rintro e w' ⟨rfl,⟨nd,rfl⟩⟩;refine ⟨_,rfl,?_⟩))
  go_ret
  exact ⟨ze,bw⟩
 subst c3
 replace H:=zT H
 obtain rfl:=Option.some.inj H
 go_enter func128,ntmps128
 go_wp2_with (first|(refine box_ev 1 #[.bool a0_0,.slice A0_1 l0_1.length c0_1,.slice A0_2 l0_2.length c0_2] 103 ?_;intro gb483 hg w4 hbox hb;have BK483:=aZ hbox;have GE483:=sG hg;replace HB:=sB hb;clear hb hbox hg;obtain ⟨hcz5_0,hfz5_0⟩:=zc BK483 0 (.bool a0_0) rfl;obtain ⟨hcz5_1,hfz5_1⟩:=zc BK483 1 (.slice A0_1 l0_1.length c0_1) rfl;obtain ⟨hcz5_2,hfz5_2⟩:=zc BK483 2 (.slice A0_2 l0_2.length c0_2) rfl)|(refine zg (some 6) func151 #[.slice A0_1 l0_1.length c0_1] ?_;(with_reducible refine (YM.calls _ _ l0_1 true _ (zC (Kd.C_below HR0_1.out HB.out)) HC0_1.out A2.out).mono ?_);rintro e w' ⟨rfl,⟨nd,rfl⟩⟩;refine ⟨_,rfl,?_⟩))
 go_ret
 exact ⟨ze,bw⟩
section
def Yt.l0:Nat→List Int→List Int→Int→List Int→Int→Int→Option (List Int)
 | 0,_,_,_,_,_,_=>none
 | k+1,x1,x5,x6,x20,x21,x22=>if x22<x21 then (if 0≤x22 then (if x22<(x20.length:Int) then (if x22<(x1.length:Int) then (if x5.length<35184372088832 then (Yt.l0 k x1 (x5++[(((rd x20 x22)+x6+(rd x1 x22))%4294967296)%1000000000]) ((((rd x20 x22)+x6+(rd x1 x22))%4294967296)/1000000000) x20 x21 (wrap64 (x22+1))) else (none)) else (if x5.length<35184372088832 then (Yt.l0 k x1 (x5++[(((rd x20 x22)+x6)%4294967296)%1000000000]) ((((rd x20 x22)+x6)%4294967296)/1000000000) x20 x21 (wrap64 (x22+1))) else (none))) else (none)) else (none)) else (if x6 > 0 then (if x5.length<35184372088832 then (some (x5++[x6])) else (none)) else (some x5))
def Yt.f (k:Nat) (l0:List Int) (l1:List Int):Option (List Int):=Yt.l0 k l1 ([]:List Int) 0 l0 (l0.length:Int) 0
theorem Yt.calls1 (k:Nat) (A0:Option Addr) (c0:Nat) (l0:List Int) (A1:Option Addr) (c1:Nat) (l1:List Int) (r:List Int) (w:World) (hr0:Kd.C (Kd.int .u32) w A0 l0.length l0) (hc0:l0.length≤c0) (hr1:Kd.C (Kd.int .u32) w A1 l1.length l1) (hc1:l1.length≤c1) (hb0_:l0.length<35184372088832) (hlt_:¬ l0.length<l1.length) (h:Yt.f k l0 l1=some r) :
  Calls Tryz.prog 152 #[.slice A0 l0.length c0,.slice A1 l1.length c1] w fun e w'=>∃ v0_:Value,e = .returned (v0_)∧Kd.R (Kd.int .u32) 97 w' w.heap.size (fun _=>True) v0_ r∧Below w.heap.size w w':=by
 have HR0:=aZ hr0
 have HC0:=aZ hc0
 clear hr0 hc0
 have HR1:=aZ hr1
 have HC1:=aZ hc1
 clear hr1 hc1
 have HB:=aZ (Below.refl w.heap.size w)
 have H:=h
 unfold Yt.f at H
 clear h
 have H':=aZ H
 clear H
 have hsw1:decide ((l0.length:Int)<(l1.length:Int))=false:=decide_eq_false (by omega)
 have hsw2:decide (l0.length<l1.length)=false:=decide_eq_false (by omega)
 clear hlt_
 go_enter func152,ntmps152
 go_wp2_with (((with_reducible refine gate_dst (N:=19) rfl ?_);refine R_make0 (Kd.int .u32) (w0:=w) w.heap.size 97 rfl (N:=19) rfl 101 _ _ rfl (l0.length+1) ?hx ?hy underlying101 (.int .u32 0) 4 info97 (by decide) (ok:=fun _=>True) trivial ?hl ?hB ?hS ?_;(case hx=>rfl);(case hy=>rfl);(case hl=>omega);(case hB=>exact bw);(case hS=>exact bs);intro v5_ w5_ HO5_ hb_ _ _;have n0_:=aZ HO5_;have n1_:=aZ hb_;clear HB HO5_ hb_;have HO5_:=n0_;have HB:=n1_;clear n0_ n1_))
 go_loopg [5,6,22] k (fun kq v5 v6 v22 w'=>∃ (x5_1:List Int) (x6_1:Int) (x22_1:Int),v6 = .int .u32 x6_1∧v22 = .int .i64 x22_1∧Aside0 (Yt.l0 kq l1 x5_1 x6_1 l0 (l0.length:Int) x22_1=some r)∧Aside0 (kq≤k)∧Aside0 (Kd.R (Kd.int .u32) 97 w' w.heap.size (fun _=>True) v5 x5_1)∧Aside0 (Below w.heap.size w w'))
 case atStart=>exact ⟨(([]:List Int)),(0),(0),zs,zs,H',⟨Nat.le_refl _⟩,⟨HO5_.out⟩,⟨bw⟩⟩
 case round =>
  clear HO5_ HB H'
  try clear c1
  obtain ⟨x5_1,x6_1,x22_1,rfl,rfl,HA,HK1,HO_5,HB⟩:=hrel
  cases gk with
  | zero=>exact absurd HA.out (by simp [Yt.l0])
  | succ k1 =>
   have H:=HA.out
   clear HA
   simp only [Yt.l0] at H
   by_cases c3:x22_1<(l0.length:Int)
   case neg=>
    rw [if_neg c3] at H
    have c3b0:=decide_eq_false c3
    clear c3
    by_cases c11:x6_1 > 0
    case neg=>
     rw [if_neg c11] at H
     have c11b0:=decide_eq_false c11
     clear c11
     obtain rfl:=Option.some.inj H
     go_wp2
     go_ret
     exact ⟨_,ze,zR HO_5,bw⟩
    rw [if_pos c11] at H
    have c11b0:=decide_eq_true c11
    clear c11
    by_cases c12:x5_1.length<35184372088832
    case neg=>
     rw [if_neg c12] at H
     cases H
    rw [if_pos c12] at H
    have LMc12:=aZ c12
    clear c12
    obtain ⟨y494,hy494⟩:∃ y_:List Int,y_=(x5_1++[x6_1]):=⟨_,rfl⟩
    replace H:(some y494)=some r:=zy hy494 H
    have Ny494:=aZ hy494
    clear hy494
    obtain rfl:=Option.some.inj H
    go_wp2_with (first|((with_reducible refine gate_builtin (b:=.append) (xs:=#[.tmp 50,.tmp 52]) rfl ?_);at_builtin;refine Kd.R_append (Kd.int .u32) (w0:=w) w.heap.size rfl (.tmp 50) (.tmp 52) 101 97 (.int .u32 0) 4 rfl underlying101 info97 rfl (by decide) (by omega) u5 x5_1 x6_1 [.int .u32 x6_1] (fun _=>True) (fun _=>False) rfl rfl ?aP (fun _ hk=>hk.elim) ?aF ?aO ?aB ?aS ?aL ?_;(case aP=>exact rfl);(case aB=>exact bw);(case aF=>exact (fun _ _=>trivial));(case aO=>exact (zR HO_5));(case aS=>exact bs);(case aL=>have:=LMc12.out;omega);intro v495 w13 ho hb hg hat;rw [← Ny494.out] at ho;replace HB:=aZ (hb);have HO496:=aZ (ho);clear HO_5;clear ho hb hg hat))
    go_ret
    exact ⟨_,ze,zR HO496,bw⟩
   rw [if_pos c3] at H
   have c3b0:=decide_eq_true c3
   clear c3
   by_cases c4:0≤x22_1
   case neg=>
    rw [if_neg c4] at H
    cases H
   rw [if_pos c4] at H
   have c4b0:=decide_eq_true c4
   clear c4
   by_cases c5:x22_1<(l0.length:Int)
   case neg=>
    rw [if_neg c5] at H
    cases H
   rw [if_pos c5] at H
   have c5b0:=decide_eq_true c5
   clear c5
   by_cases c6:x22_1<(l1.length:Int)
   case neg=>
    rw [if_neg c6] at H
    have c6b0:=decide_eq_false c6
    clear c6
    by_cases c9:x5_1.length<35184372088832
    case neg=>
     rw [if_neg c9] at H
     cases H
    rw [if_pos c9] at H
    have LMc9:=aZ c9
    clear c9
    obtain ⟨y491,hy491⟩:∃ y_:List Int,y_=(x5_1++[(((rd l0 x22_1)+x6_1)%4294967296)%1000000000]):=⟨_,rfl⟩
    replace H:(Yt.l0 k1 l1 y491 ((((rd l0 x22_1)+x6_1)%4294967296)/1000000000) l0 (l0.length:Int) (wrap64 (x22_1+1)))=some r:=zy hy491 H
    have Ny491:=aZ hy491
    clear hy491
    have H':=aZ H
    clear H
    have p486:0≤(x22_1:Int):=zd
    have q486:x22_1<(l0.length:Int):=zd
    obtain ⟨ad486,e486,hx486_0⟩:=Kd.at_int HR0.out x22_1 p486 q486
    cases e486
    replace hx486_0:=(HB.out.cell (World.block_lt_of_cell? w _ hx486_0)).trans hx486_0
    replace p486:=eq_true p486
    replace q486:=eq_true q486
    go_wp2_with (first|((with_reducible refine gate_builtin (b:=.append) (xs:=#[.tmp 42,.tmp 45]) rfl ?_);at_builtin;refine Kd.R_append (Kd.int .u32) (w0:=w) w.heap.size rfl (.tmp 42) (.tmp 45) 101 97 (.int .u32 0) 4 rfl underlying101 info97 rfl (by decide) (by omega) u5 x5_1 ((((rd l0 x22_1)+x6_1)%4294967296)%1000000000) [.int .u32 ((((rd l0 x22_1)+x6_1)%4294967296)%1000000000)] (fun _=>True) (fun _=>False) rfl rfl ?aP (fun _ hk=>hk.elim) ?aF ?aO ?aB ?aS ?aL ?_;(case aP=>exact rfl);(case aB=>exact bw);(case aF=>exact (fun _ _=>trivial));(case aO=>exact (zR HO_5));(case aS=>exact bs);(case aL=>have:=LMc9.out;omega);intro v492 w10 ho hb hg hat;rw [← Ny491.out] at ho;replace HB:=aZ (hb);have HO493:=aZ (ho);clear HO_5;clear ho hb hg hat))
    go_roundg k1
    case measure=>have:=HK1.out;omega
    case rel=>exact ⟨(y491),((((rd l0 x22_1)+x6_1)%4294967296)/1000000000),(wrap64 (x22_1+1)),zs,zs,H',⟨by have:=HK1.out;omega⟩,⟨zR HO493⟩,⟨bw⟩⟩
   rw [if_pos c6] at H
   have c6b0:=decide_eq_true c6
   clear c6
   by_cases c7:x5_1.length<35184372088832
   case neg=>
    rw [if_neg c7] at H
    cases H
   rw [if_pos c7] at H
   have LMc7:=aZ c7
   clear c7
   obtain ⟨y488,hy488⟩:∃ y_:List Int,y_=(x5_1++[(((rd l0 x22_1)+x6_1+(rd l1 x22_1))%4294967296)%1000000000]):=⟨_,rfl⟩
   replace H:(Yt.l0 k1 l1 y488 ((((rd l0 x22_1)+x6_1+(rd l1 x22_1))%4294967296)/1000000000) l0 (l0.length:Int) (wrap64 (x22_1+1)))=some r:=zy hy488 H
   have Ny488:=aZ hy488
   clear hy488
   have H':=aZ H
   clear H
   have p486:0≤(x22_1:Int):=zd
   have q486:x22_1<(l0.length:Int):=zd
   obtain ⟨ad486,e486,hx486_0⟩:=Kd.at_int HR0.out x22_1 p486 q486
   cases e486
   replace hx486_0:=(HB.out.cell (World.block_lt_of_cell? w _ hx486_0)).trans hx486_0
   replace p486:=eq_true p486
   replace q486:=eq_true q486
   have p487:0≤(x22_1:Int):=zd
   have q487:x22_1<(l1.length:Int):=zd
   obtain ⟨ad487,e487,hx487_0⟩:=Kd.at_int HR1.out x22_1 p487 q487
   cases e487
   replace hx487_0:=(HB.out.cell (World.block_lt_of_cell? w _ hx487_0)).trans hx487_0
   replace p487:=eq_true p487
   replace q487:=eq_true q487
   go_wp2_with (first|((with_reducible refine gate_builtin (b:=.append) (xs:=#[.tmp 42,.tmp 45]) rfl ?_);at_builtin;refine Kd.R_append (Kd.int .u32) (w0:=w) w.heap.size rfl (.tmp 42) (.tmp 45) 101 97 (.int .u32 0) 4 rfl underlying101 info97 rfl (by decide) (by omega) u5 x5_1 ((((rd l0 x22_1)+x6_1+(rd l1 x22_1))%4294967296)%1000000000) [.int .u32 ((((rd l0 x22_1)+x6_1+(rd l1 x22_1))%4294967296)%1000000000)] (fun _=>True) (fun _=>False) rfl rfl ?aP (fun _ hk=>hk.elim) ?aF ?aO ?aB ?aS ?aL ?_;(case aP=>exact rfl);(case aB=>exact bw);(case aF=>exact (fun _ _=>trivial));(case aO=>exact (zR HO_5));(case aS=>exact bs);(case aL=>have:=LMc7.out;omega);intro v489 w8 ho hb hg hat;rw [← Ny488.out] at ho;replace HB:=aZ (hb);have HO490:=aZ (ho);clear HO_5;clear ho hb hg hat))
   go_roundg k1
   case measure=>have:=HK1.out;omega
   case rel=>exact ⟨(y488),((((rd l0 x22_1)+x6_1+(rd l1 x22_1))%4294967296)/1000000000),(wrap64 (x22_1+1)),zs,zs,H',⟨by have:=HK1.out;omega⟩,⟨zR HO490⟩,⟨bw⟩⟩
theorem Yt.calls2 (k:Nat) (A0:Option Addr) (c0:Nat) (l0:List Int) (A1:Option Addr) (c1:Nat) (l1:List Int) (r:List Int) (w:World) (hr0:Kd.C (Kd.int .u32) w A0 l0.length l0) (hc0:l0.length≤c0) (hr1:Kd.C (Kd.int .u32) w A1 l1.length l1) (hc1:l1.length≤c1) (hb0_:l0.length<35184372088832) (hlt_:l1.length<l0.length) (h:Yt.f k l0 l1=some r) :
  Calls Tryz.prog 152 #[.slice A1 l1.length c1,.slice A0 l0.length c0] w fun e w'=>∃ v0_:Value,e = .returned (v0_)∧Kd.R (Kd.int .u32) 97 w' w.heap.size (fun _=>True) v0_ r∧Below w.heap.size w w':=by
 have HR0:=aZ hr0
 have HC0:=aZ hc0
 clear hr0 hc0
 have HR1:=aZ hr1
 have HC1:=aZ hc1
 clear hr1 hc1
 have HB:=aZ (Below.refl w.heap.size w)
 have H:=h
 unfold Yt.f at H
 clear h
 have H':=aZ H
 clear H
 have hsw1:decide ((l1.length:Int)<(l0.length:Int))=true:=decide_eq_true (by omega)
 have hsw2:decide (l1.length<l0.length)=true:=decide_eq_true (by omega)
 clear hlt_
 go_enter func152,ntmps152
 go_wp2_with (((with_reducible refine gate_dst (N:=19) rfl ?_);refine R_make0 (Kd.int .u32) (w0:=w) w.heap.size 97 rfl (N:=19) rfl 101 _ _ rfl (l0.length+1) ?hx ?hy underlying101 (.int .u32 0) 4 info97 (by decide) (ok:=fun _=>True) trivial ?hl ?hB ?hS ?_;(case hx=>rfl);(case hy=>rfl);(case hl=>omega);(case hB=>exact bw);(case hS=>exact bs);intro v5_ w5_ HO5_ hb_ _ _;have n0_:=aZ HO5_;have n1_:=aZ hb_;clear HB HO5_ hb_;have HO5_:=n0_;have HB:=n1_;clear n0_ n1_))
 go_loopg [5,6,22] k (fun kq v5 v6 v22 w'=>∃ (x5_1:List Int) (x6_1:Int) (x22_1:Int),v6 = .int .u32 x6_1∧v22 = .int .i64 x22_1∧Aside0 (Yt.l0 kq l1 x5_1 x6_1 l0 (l0.length:Int) x22_1=some r)∧Aside0 (kq≤k)∧Aside0 (Kd.R (Kd.int .u32) 97 w' w.heap.size (fun _=>True) v5 x5_1)∧Aside0 (Below w.heap.size w w'))
 case atStart=>exact ⟨(([]:List Int)),(0),(0),zs,zs,H',⟨Nat.le_refl _⟩,⟨HO5_.out⟩,⟨bw⟩⟩
 case round =>
  clear HO5_ HB H'
  try clear c1
  obtain ⟨x5_1,x6_1,x22_1,rfl,rfl,HA,HK1,HO_5,HB⟩:=hrel
  cases gk with
  | zero=>exact absurd HA.out (by simp [Yt.l0])
  | succ k1 =>
   have H:=HA.out
   clear HA
   simp only [Yt.l0] at H
   by_cases c3:x22_1<(l0.length:Int)
   case neg=>
    rw [if_neg c3] at H
    have c3b0:=decide_eq_false c3
    clear c3
    by_cases c11:x6_1 > 0
    case neg=>
     rw [if_neg c11] at H
     have c11b0:=decide_eq_false c11
     clear c11
     obtain rfl:=Option.some.inj H
     go_wp2
     go_ret
     exact ⟨_,ze,zR HO_5,bw⟩
    rw [if_pos c11] at H
    have c11b0:=decide_eq_true c11
    clear c11
    by_cases c12:x5_1.length<35184372088832
    case neg=>
     rw [if_neg c12] at H
     cases H
    rw [if_pos c12] at H
    have LMc12:=aZ c12
    clear c12
    obtain ⟨y494,hy494⟩:∃ y_:List Int,y_=(x5_1++[x6_1]):=⟨_,rfl⟩
    replace H:(some y494)=some r:=zy hy494 H
    have Ny494:=aZ hy494
    clear hy494
    obtain rfl:=Option.some.inj H
    go_wp2_with (first|((with_reducible refine gate_builtin (b:=.append) (xs:=#[.tmp 50,.tmp 52]) rfl ?_);at_builtin;refine Kd.R_append (Kd.int .u32) (w0:=w) w.heap.size rfl (.tmp 50) (.tmp 52) 101 97 (.int .u32 0) 4 rfl underlying101 info97 rfl (by decide) (by omega) u5 x5_1 x6_1 [.int .u32 x6_1] (fun _=>True) (fun _=>False) rfl rfl ?aP (fun _ hk=>hk.elim) ?aF ?aO ?aB ?aS ?aL ?_;(case aP=>exact rfl);(case aB=>exact bw);(case aF=>exact (fun _ _=>trivial));(case aO=>exact (zR HO_5));(case aS=>exact bs);(case aL=>have:=LMc12.out;omega);intro v495 w13 ho hb hg hat;rw [← Ny494.out] at ho;replace HB:=aZ (hb);have HO496:=aZ (ho);clear HO_5;clear ho hb hg hat))
    go_ret
    exact ⟨_,ze,zR HO496,bw⟩
   rw [if_pos c3] at H
   have c3b0:=decide_eq_true c3
   clear c3
   by_cases c4:0≤x22_1
   case neg=>
    rw [if_neg c4] at H
    cases H
   rw [if_pos c4] at H
   have c4b0:=decide_eq_true c4
   clear c4
   by_cases c5:x22_1<(l0.length:Int)
   case neg=>
    rw [if_neg c5] at H
    cases H
   rw [if_pos c5] at H
   have c5b0:=decide_eq_true c5
   clear c5
   by_cases c6:x22_1<(l1.length:Int)
   case neg=>
    rw [if_neg c6] at H
    have c6b0:=decide_eq_false c6
    clear c6
    by_cases c9:x5_1.length<35184372088832
    case neg=>
     rw [if_neg c9] at H
     cases H
    rw [if_pos c9] at H
    have LMc9:=aZ c9
    clear c9
    obtain ⟨y491,hy491⟩:∃ y_:List Int,y_=(x5_1++[(((rd l0 x22_1)+x6_1)%4294967296)%1000000000]):=⟨_,rfl⟩
    replace H:(Yt.l0 k1 l1 y491 ((((rd l0 x22_1)+x6_1)%4294967296)/1000000000) l0 (l0.length:Int) (wrap64 (x22_1+1)))=some r:=zy hy491 H
    have Ny491:=aZ hy491
    clear hy491
    have H':=aZ H
    clear H
    have p486:0≤(x22_1:Int):=zd
    have q486:x22_1<(l0.length:Int):=zd
    obtain ⟨ad486,e486,hx486_0⟩:=Kd.at_int HR0.out x22_1 p486 q486
    cases e486
    replace hx486_0:=(HB.out.cell (World.block_lt_of_cell? w _ hx486_0)).trans hx486_0
    replace p486:=eq_true p486
    replace q486:=eq_true q486
    go_wp2_with (first|((with_reducible refine gate_builtin (b:=.append) (xs:=#[.tmp 42,.tmp 45]) rfl ?_);at_builtin;refine Kd.R_append (Kd.int .u32) (w0:=w) w.heap.size rfl (.tmp 42) (.tmp 45) 101 97 (.int .u32 0) 4 rfl underlying101 info97 rfl (by decide) (by omega) u5 x5_1 ((((rd l0 x22_1)+x6_1)%4294967296)%1000000000) [.int .u32 ((((rd l0 x22_1)+x6_1)%4294967296)%1000000000)] (fun _=>True) (fun _=>False) rfl rfl ?aP (fun _ hk=>hk.elim) ?aF ?aO ?aB ?aS ?aL ?_;(case aP=>exact rfl);(case aB=>exact bw);(case aF=>exact (fun _ _=>trivial));(case aO=>exact (zR HO_5));(case aS=>exact bs);(case aL=>have:=LMc9.out;omega);intro v492 w10 ho hb hg hat;rw [← Ny491.out] at ho;replace HB:=aZ (hb);have HO493:=aZ (ho);clear HO_5;clear ho hb hg hat))
    go_roundg k1
    case measure=>have:=HK1.out;omega
    case rel=>exact ⟨(y491),((((rd l0 x22_1)+x6_1)%4294967296)/1000000000),(wrap64 (x22_1+1)),zs,zs,H',⟨by have:=HK1.out;omega⟩,⟨zR HO493⟩,⟨bw⟩⟩
   rw [if_pos c6] at H
   have c6b0:=decide_eq_true c6
   clear c6
   by_cases c7:x5_1.length<35184372088832
   case neg=>
    rw [if_neg c7] at H
    cases H
   rw [if_pos c7] at H
   have LMc7:=aZ c7
   clear c7
   obtain ⟨y488,hy488⟩:∃ y_:List Int,y_=(x5_1++[(((rd l0 x22_1)+x6_1+(rd l1 x22_1))%4294967296)%1000000000]):=⟨_,rfl⟩
   replace H:(Yt.l0 k1 l1 y488 ((((rd l0 x22_1)+x6_1+(rd l1 x22_1))%4294967296)/1000000000) l0 (l0.length:Int) (wrap64 (x22_1+1)))=some r:=zy hy488 H
   have Ny488:=aZ hy488
   clear hy488
   have H':=aZ H
   clear H
   have p486:0≤(x22_1:Int):=zd
   have q486:x22_1<(l0.length:Int):=zd
   obtain ⟨ad486,e486,hx486_0⟩:=Kd.at_int HR0.out x22_1 p486 q486
   cases e486
   replace hx486_0:=(HB.out.cell (World.block_lt_of_cell? w _ hx486_0)).trans hx486_0
   replace p486:=eq_true p486
   replace q486:=eq_true q486
   have p487:0≤(x22_1:Int):=zd
   have q487:x22_1<(l1.length:Int):=zd
   obtain ⟨ad487,e487,hx487_0⟩:=Kd.at_int HR1.out x22_1 p487 q487
   cases e487
   replace hx487_0:=(HB.out.cell (World.block_lt_of_cell? w _ hx487_0)).trans hx487_0
   replace p487:=eq_true p487
   replace q487:=eq_true q487
   go_wp2_with (first|((with_reducible refine gate_builtin (b:=.append) (xs:=#[.tmp 42,.tmp 45]) rfl ?_);at_builtin;refine Kd.R_append (Kd.int .u32) (w0:=w) w.heap.size rfl (.tmp 42) (.tmp 45) 101 97 (.int .u32 0) 4 rfl underlying101 info97 rfl (by decide) (by omega) u5 x5_1 ((((rd l0 x22_1)+x6_1+(rd l1 x22_1))%4294967296)%1000000000) [.int .u32 ((((rd l0 x22_1)+x6_1+(rd l1 x22_1))%4294967296)%1000000000)] (fun _=>True) (fun _=>False) rfl rfl ?aP (fun _ hk=>hk.elim) ?aF ?aO ?aB ?aS ?aL ?_;(case aP=>exact rfl);(case aB=>exact bw);(case aF=>exact (fun _ _=>trivial));(case aO=>exact (zR HO_5));(case aS=>exact bs);(case aL=>have:=LMc7.out;omega);intro v489 w8 ho hb hg hat;rw [← Ny488.out] at ho;replace HB:=aZ (hb);have HO490:=aZ (ho);clear HO_5;clear ho hb hg hat))
   go_roundg k1
   case measure=>have:=HK1.out;omega
   case rel=>exact ⟨(y488),((((rd l0 x22_1)+x6_1+(rd l1 x22_1))%4294967296)/1000000000),(wrap64 (x22_1+1)),zs,zs,H',⟨by have:=HK1.out;omega⟩,⟨zR HO490⟩,⟨bw⟩⟩
def Y0k.f (k:Nat) (l0:List Int) (l1:List Int):Option (List Int):=if l0.length<35184372088832∧l1.length<35184372088832 then (if l0.length<l1.length then Yt.f k l1 l0 else Yt.f k l0 l1) else none
theorem Y0k.calls (k:Nat) (A0:Option Addr) (c0:Nat) (l0:List Int) (A1:Option Addr) (c1:Nat) (l1:List Int) (r:List Int) (w:World) (hr0:Kd.C (Kd.int .u32) w A0 l0.length l0) (hc0:l0.length≤c0) (hr1:Kd.C (Kd.int .u32) w A1 l1.length l1) (hc1:l1.length≤c1) (h:Y0k.f k l0 l1=some r) :
  Calls Tryz.prog 152 #[.slice A0 l0.length c0,.slice A1 l1.length c1] w fun e w'=>∃ v0_:Value,e = .returned (v0_)∧Kd.R (Kd.int .u32) 97 w' w.heap.size (fun _=>True) v0_ r∧Below w.heap.size w w':=by
 unfold Y0k.f at h
 by_cases hb:l0.length<35184372088832∧l1.length<35184372088832
 case neg=>rw [if_neg hb] at h;cases h
 rw [if_pos hb] at h
 by_cases hs:l0.length<l1.length
 case neg=>
  rw [if_neg hs] at h
  exact Yt.calls1 k A0 c0 l0 A1 c1 l1 r w hr0 hc0 hr1 hc1 hb.1 hs h
 rw [if_pos hs] at h
 exact Yt.calls2 k A1 c1 l1 A0 c0 l0 r w hr1 hc1 hr0 hc0 hb.2 hs h
end
def YN.l0:Nat→List Int→List Int→Int→List Int→Int→Int→Option (List Int)
 | 0,_,_,_,_,_,_=>none
 | k+1,x1,x5,x6,x13,x14,x15=>if x15<x14 then (if 0≤x15 then (if x15<(x13.length:Int) then (if x15<(x1.length:Int) then (if (rd x13 x15)<((x6+(rd x1 x15))%4294967296) then (if x15<(x5.length:Int) then (YN.l0 k x1 (x5.set (x15:Int).toNat (((((rd x13 x15)+1000000000)%4294967296)-((x6+(rd x1 x15))%4294967296))%4294967296)) 1 x13 x14 (wrap64 (x15+1))) else (none)) else (if x15<(x5.length:Int) then (YN.l0 k x1 (x5.set (x15:Int).toNat (((rd x13 x15)-((x6+(rd x1 x15))%4294967296))%4294967296)) 0 x13 x14 (wrap64 (x15+1))) else (none))) else (if (rd x13 x15)<x6 then (if x15<(x5.length:Int) then (YN.l0 k x1 (x5.set (x15:Int).toNat (((((rd x13 x15)+1000000000)%4294967296)-x6)%4294967296)) 1 x13 x14 (wrap64 (x15+1))) else (none)) else (if x15<(x5.length:Int) then (YN.l0 k x1 (x5.set (x15:Int).toNat (((rd x13 x15)-x6)%4294967296)) 0 x13 x14 (wrap64 (x15+1))) else (none)))) else (none)) else (none)) else ((Yh.f k x5).bind fun t488=>(some t488))
def YN.f (k:Nat) (l0:List Int) (l1:List Int):Option (List Int):=if 0≤(l0.length:Int) then (if ((l0.length:Int):Int).toNat≤70368744177664 then (YN.l0 k l1 (List.replicate ((l0.length:Int):Int).toNat 0) 0 l0 (l0.length:Int) 0) else (none)) else (none)
theorem YN.calls (k:Nat) (A0:Option Addr) (c0:Nat) (l0:List Int) (A1:Option Addr) (c1:Nat) (l1:List Int) (r:List Int) (w:World) (hr0:Kd.C (Kd.int .u32) w A0 l0.length l0) (hc0:l0.length≤c0) (hr1:Kd.C (Kd.int .u32) w A1 l1.length l1) (hc1:l1.length≤c1) (h:YN.f k l0 l1=some r) :
  Calls Tryz.prog 154 #[.slice A0 l0.length c0,.slice A1 l1.length c1] w fun e w'=>∃ v0_:Value,e = .returned (v0_)∧Kd.V (Kd.int .u32) 97 w' w.heap.size (fun k_=>(w.heap.size≤k_)) v0_ r∧Below w.heap.size w w':=by
 have HR0:=aZ hr0
 have HC0:=aZ hc0
 clear hr0 hc0
 have HR1:=aZ hr1
 have HC1:=aZ hc1
 clear hr1 hc1
 have HB:=aZ (Below.refl w.heap.size w)
 have H:=h
 unfold YN.f at H
 clear h
 by_cases c3:0≤(l0.length:Int)
 case neg=>
  rw [if_neg c3] at H
  cases H
 rw [if_pos c3] at H
 have c3b0:=eq_true c3
 have c3b1:=decide_eq_true c3
 clear c3
 by_cases c4:((l0.length:Int):Int).toNat≤70368744177664
 case neg=>
  rw [if_neg c4] at H
  cases H
 rw [if_pos c4] at H
 have c4b0:=eq_true c4
 have c4b1:=decide_eq_true c4
 clear c4
 obtain ⟨y485,hy485⟩:∃ y_:List Int,y_=(List.replicate ((l0.length:Int):Int).toNat 0):=⟨_,rfl⟩
 replace H:(YN.l0 k l1 y485 0 l0 (l0.length:Int) 0)=some r:=zy hy485 H
 have Ny485:=aZ hy485
 clear hy485
 have H':=aZ H
 clear H
 go_enter func154,ntmps154
 go_wp2_with (first|((with_reducible refine gate_dst (N:=12) rfl ?_);refine Kd.R_make (Kd.int .u32) _ 97 rfl (N:=12) rfl 101 _ _ rfl (l0.length:Int) rfl rfl underlying101 (.int .u32 0) 4 info97 rfl (by decide) (by omega) 0 (ok:=fun _=>True) (okp:=fun _=>True) rfl (fun _ hk=>hk) trivial (zd) (Nat.le_trans (Nat.mul_le_mul_right _ (zd:(l0.length:Int).toNat≤70368744177664)) (by omega)) (Below.refl _ _) (Nat.le_refl _) ?_;intro v486 w5 ho6 hb hg_ hnew_;clear hg_ hnew_;(first|rw [← Ny485.out] at ho6|(simp only [Int.reduceToNat] at ho6;rw [← Ny485.out] at ho6));have HO487:=aZ (Kd.R_lower (Kd.R_newM (M:=fun k_=>(w.heap.size≤k_)) ho6 bs (fun k_ h_=>h_)) bs);replace HB:=sB hb;clear hb ho6))
 go_loopg [6,15] k (fun kq v6 v15 w'=>∃ (x5_1:List Int) (x6_1:Int) (x15_1:Int),v6 = .int .u32 x6_1∧v15 = .int .i64 x15_1∧Aside0 (YN.l0 kq l1 x5_1 x6_1 l0 (l0.length:Int) x15_1=some r)∧Aside0 (kq≤k)∧Aside0 (Kd.R (Kd.int .u32) 97 w' w.heap.size (fun k_=>(w.heap.size≤k_)) v486 x5_1)∧Aside0 (Below w.heap.size w w'))
 case atStart=>exact ⟨(y485),(0),(0),zs,zs,H',⟨Nat.le_refl _⟩,⟨rM HO487 (fun _ hk=>hk.1)⟩,⟨bw⟩⟩
 case round =>
  clear H'
  try clear c1
  try clear c3
  try clear c3b0
  try clear c3b1
  try clear c4
  try clear c4b0
  try clear c4b1
  obtain ⟨x5_1,x6_1,x15_1,rfl,rfl,HA,HK1,HO_5,HB⟩:=hrel
  cases gk with
  | zero=>exact absurd HA.out (by simp [YN.l0])
  | succ k1 =>
   have H:=HA.out
   clear HA
   simp only [YN.l0] at H
   by_cases c7:x15_1<(l0.length:Int)
   case neg=>
    rw [if_neg c7] at H
    have c7b0:=decide_eq_false c7
    clear c7
    obtain ⟨t488,A29,H⟩:=zB H
    obtain rfl:=Option.some.inj H
    obtain ⟨Ao30,co30,rfl⟩:=Kd.R_slice HO_5.out
    go_wp2_with (first|(refine zg (some 44) func147 #[.slice Ao30 x5_1.length co30] ?_;(with_reducible refine (Yh.calls k1 (fun k_=>some k_=(.slice Ao30 x5_1.length co30:Value).ownBlock) _ _ x5_1 t488 _ ?side1 A29.out).mono ?_);(case side1=>exact Kd.R_V (Kd.R_tight rfl (HO_5.out)));rintro e w31 ⟨v489,rfl,ho0,hb⟩;refine ⟨_,rfl,?_⟩;have HO490:=yL (fun k_=>(w.heap.size≤k_)) ho0 (fun k_ hk_=>Or.elim hk_ (fun hs_=>((HO_5.out).1 k_ hs_.symm)) (fun hn_=>(Nat.le_trans bs hn_)));replace HO_5:=yR HO_5 hb;replace HB:=sB hb;clear hb ho0))
    go_ret
    exact ⟨_,ze,zV HO490,bw⟩
   rw [if_pos c7] at H
   have c7b0:=decide_eq_true c7
   clear c7
   by_cases c8:0≤x15_1
   case neg=>
    rw [if_neg c8] at H
    cases H
   rw [if_pos c8] at H
   have c8b0:=decide_eq_true c8
   clear c8
   by_cases c9:x15_1<(l0.length:Int)
   case neg=>
    rw [if_neg c9] at H
    cases H
   rw [if_pos c9] at H
   have c9b0:=decide_eq_true c9
   clear c9
   by_cases c10:x15_1<(l1.length:Int)
   case neg=>
    rw [if_neg c10] at H
    have c10b0:=decide_eq_false c10
    clear c10
    by_cases c20:(rd l0 x15_1)<x6_1
    case neg=>
     rw [if_neg c20] at H
     have c20b0:=decide_eq_false c20
     clear c20
     by_cases c25:x15_1<(x5_1.length:Int)
     case neg=>
      rw [if_neg c25] at H
      cases H
     rw [if_pos c25] at H
     have c25b0:=decide_eq_true c25
     clear c25
     obtain ⟨y496,hy496⟩:∃ y_:List Int,y_=(x5_1.set (x15_1:Int).toNat (((rd l0 x15_1)-x6_1)%4294967296)):=⟨_,rfl⟩
     replace H:(YN.l0 k1 l1 y496 0 l0 (l0.length:Int) (wrap64 (x15_1+1)))=some r:=zy hy496 H
     have Ny496:=aZ hy496
     clear hy496
     have H':=aZ H
     clear H
     have p491:0≤(x15_1:Int):=zd
     have q491:x15_1<(l0.length:Int):=zd
     obtain ⟨ad491,e491,hx491_0⟩:=Kd.at_int HR0.out x15_1 p491 q491
     cases e491
     replace hx491_0:=(HB.out.cell (World.block_lt_of_cell? w _ hx491_0)).trans hx491_0
     replace p491:=eq_true p491
     replace q491:=eq_true q491
     have p26:0≤(x15_1:Int):=zd
     have q26:(x15_1:Int)<((x5_1.length:Int):Int):=zd
     obtain ⟨go26,co26,eo26,gb26,gl26,cl26,HG26⟩:=Kd.R_form HO_5.out (by omega)
     (first|cases eo26|(injection eo26 with ea_ en_ ec_;(first|subst ea_|(injection ea_ with ea_;subst ea_));subst ec_;clear en_))
     have GB26:=aZ gb26
     have GG26:=aZ HG26
     clear gb26 gl26 HG26
     obtain ⟨hx26_0,hf26_0⟩:=Kd.R_celln 0 HO_5.out (x15_1:Int) p26 q26
     replace p26:=eq_true p26
     replace q26:=eq_true q26
     have HP27:=Kd.R_putg HO_5.out (x15_1:Int) (((rd l0 x15_1)-x6_1)%4294967296)
     go_wp2_with (first|((with_reducible refine gate_store (t:=97) (p:=41) rfl ?_);refine store_event (t:=97) (p:=41) (v:=?vo_w28) (w1:=(wr.setCell ⟨go26,(x15_1:Int).toNat,none⟩ (.int .u32 (((rd l0 x15_1)-x6_1)%4294967296)))) ?hg ?ho ?hn ?hr ?_;(case ho=>rfl);(case hg=>rfl);(case hn=>rfl);(case hr=>first|(go_simp;done)|(go_simp;rfl));intro w28 hw;have hg:wr.grownBy w28 (some go26):=(by rw [hw];exact HP27.2);have hp_:Kd.R (Kd.int .u32) 97 w28 w.heap.size (fun k_=>(w.heap.size≤k_)) (.slice (some ⟨go26,0,none⟩) x5_1.length co26) y496:=(by rw [hw,Ny496.out];exact HP27.1);clear HP27;replace HO_5:=aZ (hp_);replace HB:=aZ ((by rw [hw];exact below_set (HB.out) GB26.out:Below w.heap.size w w28));clear hg hw hp_))
     go_roundg k1
     case measure=>have:=HK1.out;omega
     case rel=>exact ⟨(y496),(0),(wrap64 (x15_1+1)),zs,zs,H',⟨by have:=HK1.out;omega⟩,⟨zR HO_5⟩,⟨bw⟩⟩
    rw [if_pos c20] at H
    have c20b0:=decide_eq_true c20
    clear c20
    by_cases c21:x15_1<(x5_1.length:Int)
    case neg=>
     rw [if_neg c21] at H
     cases H
    rw [if_pos c21] at H
    have c21b0:=decide_eq_true c21
    clear c21
    obtain ⟨y495,hy495⟩:∃ y_:List Int,y_=(x5_1.set (x15_1:Int).toNat (((((rd l0 x15_1)+1000000000)%4294967296)-x6_1)%4294967296)):=⟨_,rfl⟩
    replace H:(YN.l0 k1 l1 y495 1 l0 (l0.length:Int) (wrap64 (x15_1+1)))=some r:=zy hy495 H
    have Ny495:=aZ hy495
    clear hy495
    have H':=aZ H
    clear H
    have p491:0≤(x15_1:Int):=zd
    have q491:x15_1<(l0.length:Int):=zd
    obtain ⟨ad491,e491,hx491_0⟩:=Kd.at_int HR0.out x15_1 p491 q491
    cases e491
    replace hx491_0:=(HB.out.cell (World.block_lt_of_cell? w _ hx491_0)).trans hx491_0
    replace p491:=eq_true p491
    replace q491:=eq_true q491
    have p22:0≤(x15_1:Int):=zd
    have q22:(x15_1:Int)<((x5_1.length:Int):Int):=zd
    obtain ⟨go22,co22,eo22,gb22,gl22,cl22,HG22⟩:=Kd.R_form HO_5.out (by omega)
    (first|cases eo22|(injection eo22 with ea_ en_ ec_;(first|subst ea_|(injection ea_ with ea_;subst ea_));subst ec_;clear en_))
    have GB22:=aZ gb22
    have GG22:=aZ HG22
    clear gb22 gl22 HG22
    obtain ⟨hx22_0,hf22_0⟩:=Kd.R_celln 0 HO_5.out (x15_1:Int) p22 q22
    replace p22:=eq_true p22
    replace q22:=eq_true q22
    have HP23:=Kd.R_putg HO_5.out (x15_1:Int) (((((rd l0 x15_1)+1000000000)%4294967296)-x6_1)%4294967296)
    go_wp2_with (first|((with_reducible refine gate_store (t:=97) (p:=41) rfl ?_);refine store_event (t:=97) (p:=41) (v:=?vo_w24) (w1:=(wr.setCell ⟨go22,(x15_1:Int).toNat,none⟩ (.int .u32 (((((rd l0 x15_1)+1000000000)%4294967296)-x6_1)%4294967296)))) ?hg ?ho ?hn ?hr ?_;(case ho=>rfl);(case hg=>rfl);(case hn=>rfl);(case hr=>first|(go_simp;done)|(go_simp;rfl));intro w24 hw;have hg:wr.grownBy w24 (some go22):=(by rw [hw];exact HP23.2);have hp_:Kd.R (Kd.int .u32) 97 w24 w.heap.size (fun k_=>(w.heap.size≤k_)) (.slice (some ⟨go22,0,none⟩) x5_1.length co22) y495:=(by rw [hw,Ny495.out];exact HP23.1);clear HP23;replace HO_5:=aZ (hp_);replace HB:=aZ ((by rw [hw];exact below_set (HB.out) GB22.out:Below w.heap.size w w24));clear hg hw hp_))
    go_roundg k1
    case measure=>have:=HK1.out;omega
    case rel=>exact ⟨(y495),(1),(wrap64 (x15_1+1)),zs,zs,H',⟨by have:=HK1.out;omega⟩,⟨zR HO_5⟩,⟨bw⟩⟩
   rw [if_pos c10] at H
   have c10b0:=decide_eq_true c10
   clear c10
   by_cases c11:(rd l0 x15_1)<((x6_1+(rd l1 x15_1))%4294967296)
   case neg=>
    rw [if_neg c11] at H
    have c11b0:=decide_eq_false c11
    clear c11
    by_cases c16:x15_1<(x5_1.length:Int)
    case neg=>
     rw [if_neg c16] at H
     cases H
    rw [if_pos c16] at H
    have c16b0:=decide_eq_true c16
    clear c16
    obtain ⟨y494,hy494⟩:∃ y_:List Int,y_=(x5_1.set (x15_1:Int).toNat (((rd l0 x15_1)-((x6_1+(rd l1 x15_1))%4294967296))%4294967296)):=⟨_,rfl⟩
    replace H:(YN.l0 k1 l1 y494 0 l0 (l0.length:Int) (wrap64 (x15_1+1)))=some r:=zy hy494 H
    have Ny494:=aZ hy494
    clear hy494
    have H':=aZ H
    clear H
    have p491:0≤(x15_1:Int):=zd
    have q491:x15_1<(l0.length:Int):=zd
    obtain ⟨ad491,e491,hx491_0⟩:=Kd.at_int HR0.out x15_1 p491 q491
    cases e491
    replace hx491_0:=(HB.out.cell (World.block_lt_of_cell? w _ hx491_0)).trans hx491_0
    replace p491:=eq_true p491
    replace q491:=eq_true q491
    have p492:0≤(x15_1:Int):=zd
    have q492:x15_1<(l1.length:Int):=zd
    obtain ⟨ad492,e492,hx492_0⟩:=Kd.at_int HR1.out x15_1 p492 q492
    cases e492
    replace hx492_0:=(HB.out.cell (World.block_lt_of_cell? w _ hx492_0)).trans hx492_0
    replace p492:=eq_true p492
    replace q492:=eq_true q492
    have p17:0≤(x15_1:Int):=zd
    have q17:(x15_1:Int)<((x5_1.length:Int):Int):=zd
    obtain ⟨go17,co17,eo17,gb17,gl17,cl17,HG17⟩:=Kd.R_form HO_5.out (by omega)
    (first|cases eo17|(injection eo17 with ea_ en_ ec_;(first|subst ea_|(injection ea_ with ea_;subst ea_));subst ec_;clear en_))
    have GB17:=aZ gb17
    have GG17:=aZ HG17
    clear gb17 gl17 HG17
    obtain ⟨hx17_0,hf17_0⟩:=Kd.R_celln 0 HO_5.out (x15_1:Int) p17 q17
    replace p17:=eq_true p17
    replace q17:=eq_true q17
    have HP18:=Kd.R_putg HO_5.out (x15_1:Int) (((rd l0 x15_1)-((x6_1+(rd l1 x15_1))%4294967296))%4294967296)
    go_wp2_with (first|((with_reducible refine gate_store (t:=97) (p:=41) rfl ?_);refine store_event (t:=97) (p:=41) (v:=?vo_w19) (w1:=(wr.setCell ⟨go17,(x15_1:Int).toNat,none⟩ (.int .u32 (((rd l0 x15_1)-((x6_1+(rd l1 x15_1))%4294967296))%4294967296)))) ?hg ?ho ?hn ?hr ?_;(case ho=>rfl);(case hg=>rfl);(case hn=>rfl);(case hr=>first|(go_simp;done)|(go_simp;rfl));intro w19 hw;have hg:wr.grownBy w19 (some go17):=(by rw [hw];exact HP18.2);have hp_:Kd.R (Kd.int .u32) 97 w19 w.heap.size (fun k_=>(w.heap.size≤k_)) (.slice (some ⟨go17,0,none⟩) x5_1.length co17) y494:=(by rw [hw,Ny494.out];exact HP18.1);clear HP18;replace HO_5:=aZ (hp_);replace HB:=aZ ((by rw [hw];exact below_set (HB.out) GB17.out:Below w.heap.size w w19));clear hg hw hp_))
    go_roundg k1
    case measure=>have:=HK1.out;omega
    case rel=>exact ⟨(y494),(0),(wrap64 (x15_1+1)),zs,zs,H',⟨by have:=HK1.out;omega⟩,⟨zR HO_5⟩,⟨bw⟩⟩
   rw [if_pos c11] at H
   have c11b0:=decide_eq_true c11
   clear c11
   by_cases c12:x15_1<(x5_1.length:Int)
   case neg=>
    rw [if_neg c12] at H
    cases H
   rw [if_pos c12] at H
   have c12b0:=decide_eq_true c12
   clear c12
   obtain ⟨y493,hy493⟩:∃ y_:List Int,y_=(x5_1.set (x15_1:Int).toNat (((((rd l0 x15_1)+1000000000)%4294967296)-((x6_1+(rd l1 x15_1))%4294967296))%4294967296)):=⟨_,rfl⟩
   replace H:(YN.l0 k1 l1 y493 1 l0 (l0.length:Int) (wrap64 (x15_1+1)))=some r:=zy hy493 H
   have Ny493:=aZ hy493
   clear hy493
   have H':=aZ H
   clear H
   have p491:0≤(x15_1:Int):=zd
   have q491:x15_1<(l0.length:Int):=zd
   obtain ⟨ad491,e491,hx491_0⟩:=Kd.at_int HR0.out x15_1 p491 q491
   cases e491
   replace hx491_0:=(HB.out.cell (World.block_lt_of_cell? w _ hx491_0)).trans hx491_0
   replace p491:=eq_true p491
   replace q491:=eq_true q491
   have p492:0≤(x15_1:Int):=zd
   have q492:x15_1<(l1.length:Int):=zd
   obtain ⟨ad492,e492,hx492_0⟩:=Kd.at_int HR1.out x15_1 p492 q492
   cases e492
   replace hx492_0:=(HB.out.cell (World.block_lt_of_cell? w _ hx492_0)).trans hx492_0
   replace p492:=eq_true p492
   replace q492:=eq_true q492
   have p13:0≤(x15_1:Int):=zd
   have q13:(x15_1:Int)<((x5_1.length:Int):Int):=zd
   obtain ⟨go13,co13,eo13,gb13,gl13,cl13,HG13⟩:=Kd.R_form HO_5.out (by omega)
   (first|cases eo13|(injection eo13 with ea_ en_ ec_;(first|subst ea_|(injection ea_ with ea_;subst ea_));subst ec_;clear en_))
   have GB13:=aZ gb13
   have GG13:=aZ HG13
   clear gb13 gl13 HG13
   obtain ⟨hx13_0,hf13_0⟩:=Kd.R_celln 0 HO_5.out (x15_1:Int) p13 q13
   replace p13:=eq_true p13
   replace q13:=eq_true q13
   have HP14:=Kd.R_putg HO_5.out (x15_1:Int) (((((rd l0 x15_1)+1000000000)%4294967296)-((x6_1+(rd l1 x15_1))%4294967296))%4294967296)
   go_wp2_with (first|((with_reducible refine gate_store (t:=97) (p:=41) rfl ?_);refine store_event (t:=97) (p:=41) (v:=?vo_w15) (w1:=(wr.setCell ⟨go13,(x15_1:Int).toNat,none⟩ (.int .u32 (((((rd l0 x15_1)+1000000000)%4294967296)-((x6_1+(rd l1 x15_1))%4294967296))%4294967296)))) ?hg ?ho ?hn ?hr ?_;(case ho=>rfl);(case hg=>rfl);(case hn=>rfl);(case hr=>first|(go_simp;done)|(go_simp;rfl));intro w15 hw;have hg:wr.grownBy w15 (some go13):=(by rw [hw];exact HP14.2);have hp_:Kd.R (Kd.int .u32) 97 w15 w.heap.size (fun k_=>(w.heap.size≤k_)) (.slice (some ⟨go13,0,none⟩) x5_1.length co13) y493:=(by rw [hw,Ny493.out];exact HP14.1);clear HP14;replace HO_5:=aZ (hp_);replace HB:=aZ ((by rw [hw];exact below_set (HB.out) GB13.out:Below w.heap.size w w15));clear hg hw hp_))
   go_roundg k1
   case measure=>have:=HK1.out;omega
   case rel=>exact ⟨(y493),(1),(wrap64 (x15_1+1)),zs,zs,H',⟨by have:=HK1.out;omega⟩,⟨zR HO_5⟩,⟨bw⟩⟩
end Go.Proofs.YtaffkbemjbfajaaGreatDoor.PNumMultipliers
