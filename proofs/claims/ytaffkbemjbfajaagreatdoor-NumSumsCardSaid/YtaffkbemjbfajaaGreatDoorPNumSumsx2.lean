-- By a program of this session: functions as plain Lean functions, each with its proof over the machine.
import Derived.Test.YtaffkbemjbfajaaGreatDoorPNumSumsx0
import Derived.Test.YtaffkbemjbfajaaGreatDoorPNumSumsx1
namespace Go.Proofs.YtaffkbemjbfajaaGreatDoor.PNumSums
open Go.RowKit Go.Proofs.Tryz Go.Proofs.YtaffkbemjbfajaaGreatDoorW.PrintWords Go.Proofs.YtaffkbemjbfajaaGreatDoorW.PrintLast Go.Proofs.YtaffkbemjbfajaaGreatDoorW.PrintMore
attribute [local go_sem] max2_int min2_int max_two min_two max_three min_three max_four min_four
set_option linter.unusedVariables false
set_option linter.unusedSimpArgs false
set_option maxHeartbeats 8000000
set_option maxRecDepth 100000
section
namespace Str
def pad9 (d:Nat):List UInt8:=List.replicate (9-(Lib.decDigits d).length) 48++Lib.decDigits d
def str:List Int→List UInt8
 | []=>[]
 | [d]=>Lib.decDigits d.toNat
 | d :: e :: l=>str (e :: l)++pad9 d.toNat
def Small (l:List Int):Prop:=∀ d ∈ l,0≤d∧d<1000000000
instance (l:List Int):Decidable (Small l):=inferInstanceAs (Decidable (∀ d ∈ l,0≤d∧d<1000000000))
theorem nDigits9 {d:Nat} (h:d<1000000000):(Lib.decDigits d).length≤9:=by
 rw [Lib.decDigits_length]
 have hk:∀ k u,u<10^(k+1)→Lib.nDigits u≤k+1:=by
  intro k
  induction k with
  | zero=>intro u hu;rw [Lib.nDigits_small (by omega)];omega
  | succ k ih =>
   intro u hu
   by_cases h9:u<10
   case neg=>
    rw [Lib.nDigits_big h9]
    have:=ih (u/10) (by rw [Nat.pow_succ] at hu;omega)
    omega
   rw [Lib.nDigits_small h9];omega
 exact hk 8 d h
theorem pad9_length {d:Nat} (h:d<1000000000):(pad9 d).length=9:=by
 have:=nDigits9 h
 simp [pad9];omega
theorem str_drop (l:List Int) (k:Nat) (h:k+1<l.length):str (l.drop k)=str (l.drop (k+1))++pad9 (l[k]'(by omega)).toNat:=by
 rw [List.drop_eq_getElem_cons (show k<l.length by omega)]
 rw [List.drop_eq_getElem_cons h]
 rfl
theorem str_length (l:List Int) (h:Small l):(str l).length≤9*l.length:=by
 induction l with
 | nil=>simp [str]
 | cons d l ih =>
  have hd:=h d (List.mem_cons_self)
  cases l with
  | nil=>have:=nDigits9 (d:=d.toNat) (by omega);simp [str];omega
  | cons e l =>
   have:=ih (fun x hx=>h x (List.mem_cons_of_mem _ hx))
   have:=pad9_length (d:=d.toNat) (by omega)
   simp [str] at *;omega
end Str
theorem Str.builder_below {T e:TypeId} {B b:Nat} {p:Value} {bs:List Value} {w w1:World} (h:Lib.BuilderAt T e B b p bs w) (hb:Below w.heap.size w w1):Lib.BuilderAt T e B b p bs w1:=by
 have hl:=h.lt
 obtain ⟨hB,v,hk,ho,hn⟩:=h
 exact ⟨hB,v,(hb.block b hl).trans hk,pw_own_below ho hb,hn⟩
def nat_Nat_String.f (l0:List Int):Option ByteArray:=if Str.Small l0∧l0.length<10000000000000 then (if l0=[] then some ⟨#[48]⟩ else some ⟨(Str.str l0).toArray⟩) else none
set_option maxHeartbeats 4000000 in
set_option maxRecDepth 100000 in
theorem nat_Nat_String.calls (A0:Option Addr) (c0:Nat) (l0:List Int) (r:ByteArray) (w:World) (hr0:Kd.C (Kd.int .u32) w A0 l0.length l0) (hc0:l0.length≤c0) (hG:Tryz.Gl w) (h:nat_Nat_String.f l0=some r) :
  Calls Tryz.prog 135 #[.slice A0 l0.length c0] w fun e w'=>e = .returned (.string r)∧Below w.heap.size w w':=by
 unfold nat_Nat_String.f at h
 by_cases hs:Str.Small l0∧l0.length<10000000000000
 case neg=>rw [if_neg hs] at h;cases h
 rw [if_pos hs] at h
 obtain ⟨hsm,hlen⟩:=hs
 by_cases hz:l0=[]
 ·rw [if_pos hz] at h
  obtain rfl:=Option.some.inj h
  subst hz
  clear hr0 hc0
  go_enter func135,ntmps135
  go_wp2
  go_ret
  exact ⟨rfl,Below.refl _ _⟩
 rw [if_neg hz] at h
 obtain rfl:=Option.some.inj h
 have hpos:0<l0.length:=List.length_pos_iff.2 hz
 obtain ⟨_,_,hx⟩:=hr0
 obtain ⟨ad,rfl,hcell0⟩:=hx hpos
 have hcell:∀ j,j<l0.length→w.cell? (ad.add j)=some (.int .u32 (l0.getD j 0)):=fun j hj=>by
  obtain ⟨c,_,hR,hcl⟩:=hcell0 j (l0.getD j 0) (by rw [List.getD_eq_getElem?_getD,List.getElem?_eq_getElem hj];rfl)
  have e:c=[.int .u32 (l0.getD j 0)]:=hR
  subst e
  have:=hcl 0 _ rfl
  have h1:(Kd.int .u32).sz=1:=rfl
  rw [h1,Nat.mul_one,Nat.add_zero] at this
  exact this
 have hsz:ad.block<w.heap.size:=by have:=World.block_lt_of_cell? w _ (hcell 0 hpos);unfold Addr.add at this;revert this;split <;> exact id
 clear hx hcell0
 -- the top digit
 obtain ⟨dt,hdt⟩:∃ d:Nat,l0.getD (l0.length-1) 0=(d:Int):=⟨(l0.getD (l0.length-1) 0).toNat,by have:=hsm (l0.getD (l0.length-1) 0) (by rw [List.getD_eq_getElem?_getD,List.getElem?_eq_getElem (by omega)];exact List.getElem_mem _);omega⟩
 have hdtlt:dt<1000000000:=by have:=hsm (l0.getD (l0.length-1) 0) (by rw [List.getD_eq_getElem?_getD,List.getElem?_eq_getElem (by omega)];exact List.getElem_mem _);omega
 have hct:=hcell (l0.length-1) (by omega)
 rw [hdt] at hct
 have HT:=aZ hdt
 have HCell:=aZ hcell
 have HS:=aZ hsm
 have HL:=aZ hlen
 have HZ:=aZ hz
 clear hdt hcell hsm hz h
 have hne:((l0.length:Int)==0)=false:=beq_eq_false_iff_ne.mpr (by omega)
 have hct':∀ (o1:Obj),(w.alloc o1).cell? (ad.add (l0.length-1))=some (.int .u32 dt):=fun o1=>by
  rw [((Below.refl w.heap.size w).alloc (Nat.le_refl _) o1).cell (by unfold Addr.add;split <;> exact hsz)];exact hct
 clear hct
 go_enter func135,ntmps135
 go_wp2_with (fail)
 refine (Tryz.strconv_FormatUint dt (by omega) _ (hG.alloc _)).mono ?_
 rintro e w1 ⟨rfl,hb1⟩
 have hA0:Lib.IsBuilder 155 5 w.heap.size w.heap.size [] (w.alloc (.cells #[.pointer none,.slice none 0 0] 155)) :=
  .inl ⟨Nat.le_refl _,.slice none 0 0,heap_alloc_new _ _,⟨rfl,.inl ⟨rfl,rfl⟩⟩,by simp [Value.ownBlock]⟩
 have hA1:Lib.IsBuilder 155 5 w.heap.size w.heap.size [] w1:=hA0.elim (fun x=>.inl (Str.builder_below x hb1)) (fun x=>.inr (Str.builder_below x hb1))
 have HB1:=aZ (show Below w.heap.size w w1 from below_step ((Below.refl _ _).alloc (Nat.le_refl _) _) hb1)
 clear hb1 hA0 hct'
 have hd9:=Str.nDigits9 hdtlt
 go_wp2_with (fail)
 refine (Tryz.Builder_WriteString _ _ _ _ _ hA1 (by simp [ByteArray.size];omega) HB1.out.size).mono ?_
 rintro e w2 ⟨rfl,hA2,hb2⟩
 have HB2:=aZ (show Below w.heap.size w w2 from HB1.out.trans hb2)
 have HA2:=aZ (show Lib.BuilderAt 155 5 w.heap.size w.heap.size (.pointer (some ⟨w.heap.size,0,none⟩)) (Lib.byteCells (Str.str (l0.drop (l0.length-1)))) w2 by
  have e1:l0.drop (l0.length-1)=[l0.getD (l0.length-1) 0]:=by
   rw [List.drop_eq_getElem_cons (show l0.length-1<l0.length by omega),List.getD_eq_getElem?_getD,List.getElem?_eq_getElem (show l0.length-1<l0.length by omega),show l0.length-1+1=l0.length by omega,List.drop_length]
   rfl
  rw [e1,HT.out]
  exact hA2)
 clear hA2 hb2 HB1 hA1 hd9 HT
 go_wp2
 go_loopw [4] (fun i wr=>∃ k:Nat,k<l0.length∧i = .int .i64 ((k:Int)-1)∧Aside0 (Lib.BuilderAt 155 5 w.heap.size w.heap.size (.pointer (some ⟨w.heap.size,0,none⟩)) (Lib.byteCells (Str.str (l0.drop k))) wr)∧Aside0 (Below w.heap.size w wr)) (fun i _=>(intOf i+1).toNat)
 case atStart=>exact ⟨l0.length-1,by omega,by congr 1;omega,HA2,HB2⟩
 case round =>
  obtain ⟨k,hk,rfl,HA,HB⟩:=hrel
  clear HA2 HB2
  cases k with
  | zero =>
   go_wp2_with (fail)
   refine (Tryz.Builder_String_any _ _ _ _ (.inr HA.out) HB.out.size).mono ?_
   rintro e w3 ⟨rfl,hb3⟩
   go_wp2
   go_ret
   exact ⟨rfl,HB.out.trans hb3⟩
  | succ k =>
   obtain ⟨dk,hdk⟩:∃ d:Nat,l0.getD k 0=(d:Int):=⟨(l0.getD k 0).toNat,by have:=HS.out (l0.getD k 0) (by rw [List.getD_eq_getElem?_getD,List.getElem?_eq_getElem (by omega)];exact List.getElem_mem _);omega⟩
   have hdklt:dk<1000000000:=by have:=HS.out (l0.getD k 0) (by rw [List.getD_eq_getElem?_getD,List.getElem?_eq_getElem (by omega)];exact List.getElem_mem _);omega
   have hck:wr.cell? (ad.add k)=some (.int .u32 dk):=by rw [HB.out.cell (by unfold Addr.add;split <;> exact hsz),HCell.out k (by omega),hdk]
   have HD:=aZ hdk
   clear hdk
   rw [show (((k+1:Nat):Int)-1)=(k:Int) from by omega]
   go_wp2_with (fail)
   obtain ⟨sD,hsD⟩:∃ s:ByteArray,s=⟨(Lib.decDigits dk).toArray⟩:=⟨_,rfl⟩
   have hfm:=Tryz.strconv_FormatUint dk (by omega) wr (hG.below HB.out)
   rw [← hsD] at hfm
   have hszD:sD.size≤9:=by rw [hsD];simpa [ByteArray.size] using Str.nDigits9 hdklt
   have HsD:=aZ hsD
   clear hsD
   refine hfm.mono ?_
   clear hfm
   rintro e w3 ⟨rfl,hb3⟩
   have HA3:=aZ (Str.builder_below HA.out hb3)
   have HB3:=aZ (show Below w.heap.size w w3 from below_step HB.out hb3)
   clear hb3 HA HB hck
   go_wp2_with (fail)
   rw [show (9-(sD.size:Int))=((9-sD.size:Nat):Int) from by omega]
   obtain ⟨sR,hsR⟩:∃ s:ByteArray,s=⟨(Lib.repeatL [48] (9-sD.size)).toArray⟩:=⟨_,rfl⟩
   have hrep:=Tryz.strings_Repeat ⟨#[48]⟩ (9-sD.size) w3 (by omega) (by show 1*(9-sD.size)≤140737488355328;omega)
   rw [show (ByteArray.mk #[48]).data.toList=[48] from rfl,← hsR] at hrep
   have hszR:sR.size=9-sD.size:=by rw [hsR];show (List.toArray _).size=_;rw [List.size_toArray,Lib.repeatL_length];show _*1=_;omega
   have HszR:=aZ hszR
   have hle:sR.size+sD.size≤9:=by omega
   have HsR:=aZ hsR
   clear hsR hszR
   refine hrep.mono ?_
   clear hrep
   rintro e w4 ⟨rfl,hb4⟩
   have HA4:=aZ (Str.builder_below HA3.out hb4)
   have HB4:=aZ (show Below w.heap.size w w4 from below_step HB3.out hb4)
   clear hb4 HA3 HB3
   go_wp2_with (fail)
   have hlS:=Str.str_length (l0.drop (k+1)) (fun x hx=>HS.out x (List.mem_of_mem_drop hx))
   refine (Tryz.Builder_WriteString _ _ _ _ _ (.inr HA4.out) (by have:=HL.out;simp [Lib.byteCells,ByteArray.size_append] at *;omega) HB4.out.size).mono ?_
   rintro e w5 ⟨rfl,hA5,hb5⟩
   have HB5:=aZ (show Below w.heap.size w w5 from HB4.out.trans hb5)
   have HA5:=aZ (show Lib.BuilderAt 155 5 w.heap.size w.heap.size (.pointer (some ⟨w.heap.size,0,none⟩)) (Lib.byteCells (Str.str (l0.drop k))) w5 by
    have e1:Lib.byteCells (Str.str (l0.drop k))=Lib.byteCells (Str.str (l0.drop (k+1)))++Lib.byteCells (sR++sD).data.toList:=by
     rw [Str.str_drop l0 k hk,Lib.byteCells,Lib.byteCells,Lib.byteCells,← List.map_append]
     congr 2
     have e2:(l0[k]'(by omega)).toNat=dk:=by
      have:=HD.out
      rw [List.getD_eq_getElem?_getD,List.getElem?_eq_getElem (by omega)] at this
      have h3:l0[k]'(by omega)=(dk:Int):=this
      rw [h3];rfl
     have hl:sD.size=(Lib.decDigits dk).length:=by rw [HsD.out];simp [ByteArray.size]
     rw [e2,Str.pad9,← hl,ByteArray.data_append,Array.toList_append,HsR.out,HsD.out]
     dsimp only
     congr 1
     generalize 9-(ByteArray.mk (Lib.decDigits dk).toArray).size=m
     induction m with
     | zero=>rfl
     | succ m ih=>rw [List.replicate_succ,ih];rfl
    rw [e1]
    exact hA5)
   clear hA5 hb5 HA4 HB4 hlS
   go_wp2
   go_roundw
   case rel=>exact ⟨k,by omega,rfl,HA5,HB5⟩
   case measure=>simp [intOf]
end
def frac_Frac_Rat.f (a0_0:Bool) (l0_1:List Int) (l0_2:List Int):Option (ByteArray×ByteArray):=(nat_Nat_String.f l0_1).bind fun t255=>(if a0_0=true then (if 1+t255.size≤9223372036854775807 then ((nat_Nat_String.f l0_2).bind fun t256=>(some ((⟨#[45]⟩:ByteArray)++t255,t256))) else (none)) else ((nat_Nat_String.f l0_2).bind fun t257=>(some (t255,t257))))
theorem frac_Frac_Rat.calls (a0_0:Bool) (A0_1:Option Addr) (c0_1:Nat) (l0_1:List Int) (A0_2:Option Addr) (c0_2:Nat) (l0_2:List Int) (r1:ByteArray) (r2:ByteArray) (w:World) (hr0_1:Kd.C (Kd.int .u32) w A0_1 l0_1.length l0_1) (hc0_1:l0_1.length≤c0_1) (hr0_2:Kd.C (Kd.int .u32) w A0_2 l0_2.length l0_2) (hc0_2:l0_2.length≤c0_2) (hG:Tryz.Gl w) (h:frac_Frac_Rat.f a0_0 l0_1 l0_2=some (r1,r2)) :
  Calls Tryz.prog 96 #[.agg #[.bool a0_0,.slice A0_1 l0_1.length c0_1,.slice A0_2 l0_2.length c0_2]] w fun e w'=>e = .returned (.agg #[.string r1,.string r2])∧Below w.heap.size w w':=by
 have hu103:=underlying103
 have hu61:=underlying61
 have HG:=aZ hG
 clear hG
 have HR0_1:=aZ hr0_1
 have HC0_1:=aZ hc0_1
 clear hr0_1 hc0_1
 have HR0_2:=aZ hr0_2
 have HC0_2:=aZ hc0_2
 clear hr0_2 hc0_2
 have HB:=aZ (Below.refl w.heap.size w)
 have H:=h
 unfold frac_Frac_Rat.f at H
 clear h
 obtain ⟨t255,A2,H⟩:=zB H
 by_cases c3:a0_0=true
 case neg=>
  replace c3:=Bool.eq_false_iff.mpr c3
  subst c3
  have H1:((nat_Nat_String.f l0_2).bind fun t257=>(some (t255,t257)))=some (r1,r2):=by rw [if_neg (show ¬ (false=true) by decide)] at H;exact H
  clear H
  have H:=H1
  clear H1
  obtain ⟨t257,A14,H⟩:=zB H
  simp only [Option.some.injEq,Prod.mk.injEq] at H
  obtain ⟨rfl,rfl⟩:=H
  go_enter func96,ntmps96
  go_wp2_with (first|(refine box_ev 1 #[.bool false,.slice A0_1 l0_1.length c0_1,.slice A0_2 l0_2.length c0_2] 103 ?_;intro gb253 hg w15 hbox hb;have BK253:=aZ hbox;have GE253:=sG hg;replace HB:=sB hb;clear hb hbox hg)|(refine box_ev 2 #[.string ⟨#[]⟩,.string ⟨#[]⟩] 61 ?_;intro gb254 hg w16 hbox hb;have BK254:=aZ hbox;have GE254:=sG hg;replace HB:=sB hb;have NB253_254:=sl hg BK253;have NB254_253:=sg hg BK253;replace BK253:=sK BK253 hb;clear hb hbox hg;have hnb17:=NB253_254.out;have hnc17:=NB254_253.out;obtain ⟨hcz18_0,hfz18_0⟩:=zc BK253 0 (.bool false) rfl;obtain ⟨hcz18_1,hfz18_1⟩:=zc BK253 1 (.slice A0_1 l0_1.length c0_1) rfl;obtain ⟨hcz18_2,hfz18_2⟩:=zc BK253 2 (.slice A0_2 l0_2.length c0_2) rfl)|(refine zg (some 6) func135 #[.slice A0_1 l0_1.length c0_1] ?_;(with_reducible refine (nat_Nat_String.calls _ _ l0_1 t255 _ ?side1 ?side2 ?side3 A2.out).mono ?_);(case side1=>exact zC (Kd.C_below HR0_1.out HB.out));(case side2=>exact HC0_1.out);(case side3=>exact Tryz.Gl.below HG.out bw);rintro e w19 ⟨rfl,hb⟩;refine ⟨_,rfl,?_⟩;replace BK253:=sK BK253 hb;replace BK254:=sK BK254 hb;replace HB:=sB hb;clear hb;obtain ⟨hcz20_0,hfz20_0⟩:=zc BK253 0 (.bool false) rfl;obtain ⟨hcz20_1,hfz20_1⟩:=zc BK253 1 (.slice A0_1 l0_1.length c0_1) rfl;obtain ⟨hcz20_2,hfz20_2⟩:=zc BK253 2 (.slice A0_2 l0_2.length c0_2) rfl)|(refine zg (some 14) func135 #[.slice A0_2 l0_2.length c0_2] ?_;(with_reducible refine (nat_Nat_String.calls _ _ l0_2 t257 _ ?side1 ?side2 ?side3 A14.out).mono ?_);(case side1=>exact zC (Kd.C_below HR0_2.out HB.out));(case side2=>exact HC0_2.out);(case side3=>exact Tryz.Gl.below HG.out bw);rintro e w21 ⟨rfl,hb⟩;refine ⟨_,rfl,?_⟩;replace BK253:=sK BK253 hb;replace BK254:=sK BK254 hb;replace HB:=sB hb;clear hb;obtain ⟨hcz22_0,hfz22_0⟩:=zc BK254 0 (.string ⟨#[]⟩) rfl;obtain ⟨hcz22_1,hfz22_1⟩:=zc BK254 1 (.string ⟨#[]⟩) rfl))
  refine bodyPost_ret (results_cell_row rfl _ _ gb254 61 #[.string t255,.string t257] (0,0) _ rfl (zp BK254) underlying61 rfl (by kernel_rfl)) rfl ?_
  exact ⟨ze,bw⟩
 subst c3
 have H1:(if 1+t255.size≤9223372036854775807 then ((nat_Nat_String.f l0_2).bind fun t256=>(some ((⟨#[45]⟩:ByteArray)++t255,t256))) else (none))=some (r1,r2):=by rw [if_pos rfl] at H;exact H
 clear H
 have H:=H1
 clear H1
 by_cases c4:1+t255.size≤9223372036854775807
 case neg=>
  rw [if_neg c4] at H
  cases H
 rw [if_pos c4] at H
 have c4b0:=eq_true c4
 have c4b1:=decide_eq_true c4
 try have c4b2:=eq_false (Nat.not_lt.2 c4)
 obtain ⟨t256,A5,H⟩:=zB H
 simp only [Option.some.injEq,Prod.mk.injEq] at H
 obtain ⟨rfl,rfl⟩:=H
 go_enter func96,ntmps96
 go_wp2_with (first|(refine box_ev 1 #[.bool true,.slice A0_1 l0_1.length c0_1,.slice A0_2 l0_2.length c0_2] 103 ?_;intro gb253 hg w6 hbox hb;have BK253:=aZ hbox;have GE253:=sG hg;replace HB:=sB hb;clear hb hbox hg)|(refine box_ev 2 #[.string ⟨#[]⟩,.string ⟨#[]⟩] 61 ?_;intro gb254 hg w7 hbox hb;have BK254:=aZ hbox;have GE254:=sG hg;replace HB:=sB hb;have NB253_254:=sl hg BK253;have NB254_253:=sg hg BK253;replace BK253:=sK BK253 hb;clear hb hbox hg;have hnb8:=NB253_254.out;have hnc8:=NB254_253.out;obtain ⟨hcz9_0,hfz9_0⟩:=zc BK253 0 (.bool true) rfl;obtain ⟨hcz9_1,hfz9_1⟩:=zc BK253 1 (.slice A0_1 l0_1.length c0_1) rfl;obtain ⟨hcz9_2,hfz9_2⟩:=zc BK253 2 (.slice A0_2 l0_2.length c0_2) rfl)|(refine zg (some 6) func135 #[.slice A0_1 l0_1.length c0_1] ?_;(with_reducible refine (nat_Nat_String.calls _ _ l0_1 t255 _ ?side1 ?side2 ?side3 A2.out).mono ?_);(case side1=>exact zC (Kd.C_below HR0_1.out HB.out));(case side2=>exact HC0_1.out);(case side3=>exact Tryz.Gl.below HG.out bw);rintro e w10 ⟨rfl,hb⟩;refine ⟨_,rfl,?_⟩;replace BK253:=sK BK253 hb;replace BK254:=sK BK254 hb;replace HB:=sB hb;clear hb;obtain ⟨hcz11_0,hfz11_0⟩:=zc BK253 0 (.bool true) rfl;obtain ⟨hcz11_1,hfz11_1⟩:=zc BK253 1 (.slice A0_1 l0_1.length c0_1) rfl;obtain ⟨hcz11_2,hfz11_2⟩:=zc BK253 2 (.slice A0_2 l0_2.length c0_2) rfl)|(refine zg (some 14) func135 #[.slice A0_2 l0_2.length c0_2] ?_;(with_reducible refine (nat_Nat_String.calls _ _ l0_2 t256 _ ?side1 ?side2 ?side3 A5.out).mono ?_);(case side1=>exact zC (Kd.C_below HR0_2.out HB.out));(case side2=>exact HC0_2.out);(case side3=>exact Tryz.Gl.below HG.out bw);rintro e w12 ⟨rfl,hb⟩;refine ⟨_,rfl,?_⟩;replace BK253:=sK BK253 hb;replace BK254:=sK BK254 hb;replace HB:=sB hb;clear hb;obtain ⟨hcz13_0,hfz13_0⟩:=zc BK254 0 (.string ⟨#[]⟩) rfl;obtain ⟨hcz13_1,hfz13_1⟩:=zc BK254 1 (.string ⟨#[]⟩) rfl))
 refine bodyPost_ret (results_cell_row rfl _ _ gb254 61 #[.string ((⟨#[45]⟩:ByteArray)++t255),.string t256] (0,0) _ rfl (zp BK254) underlying61 rfl (by kernel_rfl)) rfl ?_
 exact ⟨ze,bw⟩
def num_Make.f (k:Nat) (a0:Int) (a1:Int):Option (ByteArray×ByteArray×Int):=if a1=0 then (some ((⟨#[]⟩:ByteArray),(⟨#[]⟩:ByteArray),23)) else ((frac_Quotient.f k a0 a1).bind fun bt259=>((frac_Frac_Rat.f bt259.1 bt259.2.1 bt259.2.2).bind fun bt266=>(some (bt266.1,bt266.2,0))))
theorem num_Make.mono:∀ a0 a1 k,LeO (num_Make.f k a0 a1) (num_Make.f (k+1) a0 a1):=by
 intro a0 a1 k
 unfold num_Make.f
 have m0:=frac_Quotient.mono
 exact zM
theorem num_Make.calls (k:Nat) (a0:Int) (a1:Int) (r1:ByteArray) (r2:ByteArray) (r3:Int) (w:World) (hG:Tryz.Gl w) (h:num_Make.f k a0 a1=some (r1,r2,r3)) :
  Calls Tryz.prog 46 #[.int .i64 a0,.int .i64 a1] w fun e w'=>e = .returned (.tuple #[.agg #[.string r1,.string r2],.int .i64 r3])∧Below w.heap.size w w':=by
 have hu61:=underlying61
 have HG:=aZ hG
 clear hG
 have HB:=aZ (Below.refl w.heap.size w)
 have H:=h
 unfold num_Make.f at H
 clear h
 by_cases c3:a1=0
 case neg=>
  rw [if_neg c3] at H
  obtain ⟨c3b0,c3b1⟩:=zX c3
  obtain ⟨⟨t259,t260,t263⟩,A6,H⟩:=zB H
  (try dsimp only at H)
  obtain ⟨⟨t266,t267⟩,A7,H⟩:=zB H
  (try dsimp only at H)
  simp only [Option.some.injEq,Prod.mk.injEq] at H
  obtain ⟨rfl,rfl,rfl⟩:=H
  go_enter func46,ntmps46
  go_wp2_with (first|(refine box_ev 4 #[.string ⟨#[]⟩,.string ⟨#[]⟩] 61 ?_;intro gb258 hg w8 hbox hb;have BK258:=aZ hbox;have GE258:=sG hg;replace HB:=sB hb;clear hb hbox hg)|(refine zg (some 11) func95 #[.int .i64 a0,.int .i64 a1] ?_;(with_reducible refine (frac_Quotient.calls k a0 a1 t259 t260 t263 _ A6.out).mono ?_);rintro e w9 ⟨v261,v264,rfl,ho0,ho1,hb⟩;refine ⟨_,rfl,?_⟩;have HO262:=yL (fun k_=>k_≠gb258) ho0 (fun k_ hk_=>(zf BK258 hk_));have HO265:=yL (fun k_=>k_≠gb258) ho1 (fun k_ hk_=>(zf BK258 hk_));replace BK258:=sK BK258 hb;replace HB:=sB hb;clear hb ho0 ho1;obtain ⟨Ao10,co10,rfl⟩:=Kd.V_slice HO262.out;obtain ⟨Ao11,co11,rfl⟩:=Kd.V_slice HO265.out)|(refine zg (some 12) func96 #[.agg #[.bool t259,.slice Ao10 t260.length co10,.slice Ao11 t263.length co11]] ?_;(with_reducible refine (frac_Frac_Rat.calls t259 _ _ t260 _ _ t263 t266 t267 _ ?side1 ?side2 ?side3 ?side4 ?side5 A7.out).mono ?_);(case side1=>exact zr HO262);(case side2=>exact zk HO262);(case side3=>exact zr HO265);(case side4=>exact zk HO265);(case side5=>exact Tryz.Gl.below HG.out bw);rintro e w12 ⟨rfl,hb⟩;refine ⟨_,rfl,?_⟩;replace HO262:=yV HO262 hb;replace HO265:=yV HO265 hb;replace BK258:=sK BK258 hb;replace HB:=sB hb;clear hb;obtain ⟨hcz13_0,hfz13_0⟩:=zc BK258 0 (.string ⟨#[]⟩) rfl;obtain ⟨hcz13_1,hfz13_1⟩:=zc BK258 1 (.string ⟨#[]⟩) rfl))
  refine bodyPost_ret (results_ct rfl _ _ gb258 61 #[.string t266,.string t267] (0,0) _ rfl (zp BK258) underlying61 rfl (by kernel_rfl)) rfl ?_
  exact ⟨ze,bw⟩
 rw [if_pos c3] at H
 obtain ⟨c3b0,c3b1⟩:=zY c3
 clear c3
 simp only [Option.some.injEq,Prod.mk.injEq] at H
 obtain ⟨rfl,rfl,rfl⟩:=H
 go_enter func46,ntmps46
 go_wp2_with (first|(refine box_ev 4 #[.string ⟨#[]⟩,.string ⟨#[]⟩] 61 ?_;intro gb258 hg w4 hbox hb;have BK258:=aZ hbox;have GE258:=sG hg;replace HB:=sB hb;clear hb hbox hg;obtain ⟨hcz5_0,hfz5_0⟩:=zc BK258 0 (.string ⟨#[]⟩) rfl;obtain ⟨hcz5_1,hfz5_1⟩:=zc BK258 1 (.string ⟨#[]⟩) rfl))
 refine bodyPost_ret (results_ct rfl _ _ gb258 61 #[.string ⟨#[]⟩,.string ⟨#[]⟩] (0,0) _ rfl (zp BK258) underlying61 rfl (by kernel_rfl)) rfl ?_
 exact ⟨ze,bw⟩
def stringslite_HasPrefix.f (a0:ByteArray) (a1:ByteArray):Option (Bool):=if (a0.size:Int)≥(a1.size:Int) then (if 0≤(a1.size:Int) then (if (a1.size:Int)≤(a0.size:Int) then (some ((a0.extract 0 ((a1.size:Int):Int).toNat).toList==a1.toList)) else (none)) else (none)) else (some false)
theorem stringslite_HasPrefix.calls (a0:ByteArray) (a1:ByteArray) (r:Bool) (w:World) (h:stringslite_HasPrefix.f a0 a1=some r) :
  Calls Tryz.prog 170 #[.string a0,.string a1] w fun e w'=>e = .returned (.bool r)∧Drawn0 w w':=by
 have H:=h
 unfold stringslite_HasPrefix.f at H
 clear h
 by_cases c3:(a0.size:Int)≥(a1.size:Int)
 case neg=>
  rw [if_neg c3] at H
  have c3b0:=decide_eq_false c3
  have c3b1:decide (a1.size≤a0.size)=false:=decide_eq_false (fun h=>c3 (Int.ofNat_le.mpr h))
  clear c3
  obtain rfl:=Option.some.inj H
  go_enter func170,ntmps170
  go_wp2
  go_ret
  exact ⟨zs,by repeat (first|exact Drawn0.refl _|apply Drawn0.step)⟩
 rw [if_pos c3] at H
 have c3b0:=decide_eq_true c3
 have c3b1:decide (a1.size≤a0.size)=true:=decide_eq_true (Int.ofNat_le.mp c3)
 clear c3
 by_cases c4:0≤(a1.size:Int)
 case neg=>
  rw [if_neg c4] at H
  cases H
 rw [if_pos c4] at H
 have c4b0:=eq_true c4
 have c4b1:=decide_eq_true c4
 clear c4
 by_cases c5:(a1.size:Int)≤(a0.size:Int)
 case neg=>
  rw [if_neg c5] at H
  cases H
 rw [if_pos c5] at H
 have c5b0:=eq_true c5
 have c5b1:=decide_eq_true c5
 clear c5
 obtain rfl:=Option.some.inj H
 go_enter func170,ntmps170
 go_wp2
 go_ret
 exact ⟨zs,by repeat (first|exact Drawn0.refl _|apply Drawn0.step)⟩
def stringslite_CutPrefix.f (a0:ByteArray) (a1:ByteArray):Option (ByteArray×Bool):=(stringslite_HasPrefix.f a0 a1).bind fun t268=>(if t268=true then (if 0≤(a1.size:Int) then (if (a1.size:Int)≤(a0.size:Int) then (some (a0.extract ((a1.size:Int):Int).toNat a0.size,true)) else (none)) else (none)) else (some (a0,false)))
theorem stringslite_CutPrefix.calls (a0:ByteArray) (a1:ByteArray) (r1:ByteArray) (r2:Bool) (w:World) (h:stringslite_CutPrefix.f a0 a1=some (r1,r2)) :
  Calls Tryz.prog 140 #[.string a0,.string a1] w fun e w'=>e = .returned (.tuple #[.string r1,.bool r2])∧Drawn0 w w':=by
 have H:=h
 unfold stringslite_CutPrefix.f at H
 clear h
 obtain ⟨t268,A3,H⟩:=zB H
 by_cases c4:t268=true
 case neg=>
  replace c4:=Bool.eq_false_iff.mpr c4
  subst c4
  have H1:(some (a0,false))=some (r1,r2):=by rw [if_neg (show ¬ (false=true) by decide)] at H;exact H
  clear H
  have H:=H1
  clear H1
  simp only [Option.some.injEq,Prod.mk.injEq] at H
  obtain ⟨rfl,rfl⟩:=H
  go_enter func140,ntmps140
  go_wp2_with (first|(refine zg (some 8) func170 #[.string a0,.string a1] ?_;(with_reducible refine (stringslite_HasPrefix.calls a0 a1 false _ A3.out).mono ?_);rintro e w' ⟨rfl,⟨nd,rfl⟩⟩;refine ⟨_,rfl,?_⟩))
  go_ret2
  exact ⟨zs,by repeat (first|exact Drawn0.refl _|apply Drawn0.step)⟩
 subst c4
 have H1:(if 0≤(a1.size:Int) then (if (a1.size:Int)≤(a0.size:Int) then (some (a0.extract ((a1.size:Int):Int).toNat a0.size,true)) else (none)) else (none))=some (r1,r2):=by rw [if_pos rfl] at H;exact H
 clear H
 have H:=H1
 clear H1
 by_cases c5:0≤(a1.size:Int)
 case neg=>
  rw [if_neg c5] at H
  cases H
 rw [if_pos c5] at H
 have c5b0:=eq_true c5
 have c5b1:=decide_eq_true c5
 clear c5
 by_cases c6:(a1.size:Int)≤(a0.size:Int)
 case neg=>
  rw [if_neg c6] at H
  cases H
 rw [if_pos c6] at H
 have c6b0:=eq_true c6
 have c6b1:=decide_eq_true c6
 clear c6
 simp only [Option.some.injEq,Prod.mk.injEq] at H
 obtain ⟨rfl,rfl⟩:=H
 go_enter func140,ntmps140
 go_wp2_with (first|(refine zg (some 8) func170 #[.string a0,.string a1] ?_;(with_reducible refine (stringslite_HasPrefix.calls a0 a1 true _ A3.out).mono ?_);rintro e w' ⟨rfl,⟨nd,rfl⟩⟩;refine ⟨_,rfl,?_⟩))
 go_ret2
 exact ⟨zs,by repeat (first|exact Drawn0.refl _|apply Drawn0.step)⟩
def strings_CutPrefix.f (a0:ByteArray) (a1:ByteArray):Option (ByteArray×Bool):=(stringslite_CutPrefix.f a0 a1).bind fun bt269=>(some (bt269.1,bt269.2))
theorem strings_CutPrefix.calls (a0:ByteArray) (a1:ByteArray) (r1:ByteArray) (r2:Bool) (w:World) (h:strings_CutPrefix.f a0 a1=some (r1,r2)) :
  Calls Tryz.prog 102 #[.string a0,.string a1] w fun e w'=>e = .returned (.tuple #[.string r1,.bool r2])∧Drawn0 w w':=by
 have H:=h
 unfold strings_CutPrefix.f at H
 clear h
 obtain ⟨⟨t269,t270⟩,A3,H⟩:=zB H
 (try dsimp only at H)
 simp only [Option.some.injEq,Prod.mk.injEq] at H
 obtain ⟨rfl,rfl⟩:=H
 go_enter func102,ntmps102
 go_wp2_with (first|(refine zg (some 8) func140 #[.string a0,.string a1] ?_;(with_reducible refine (stringslite_CutPrefix.calls a0 a1 t269 t270 _ A3.out).mono ?_);rintro e w' ⟨rfl,⟨nd,rfl⟩⟩;refine ⟨_,rfl,?_⟩))
 go_ret2
 exact ⟨zs,by repeat (first|exact Drawn0.refl _|apply Drawn0.step)⟩
section
def strings_Trim.f (a0:ByteArray) (a1:ByteArray):Option ByteArray:=if a0.size≤9223372036854775807∧a1.size<4294967281∧a1.data.toList.all (fun b=>decide (b.toNat<128))=true then some ⟨(Lib.trimS a0.data.toList a1.data.toList).toArray⟩ else none
theorem strings_Trim.calls (a0:ByteArray) (a1:ByteArray) (r:ByteArray) (w:World) (h:strings_Trim.f a0 a1=some r) :
  Calls Tryz.prog 142 #[.string a0,.string a1] w fun e w'=>e = .returned (.string r)∧Below w.heap.size w w':=by
 unfold strings_Trim.f at h
 by_cases c:a0.size≤9223372036854775807∧a1.size<4294967281∧a1.data.toList.all (fun b=>decide (b.toNat<128))=true
 case neg=>
  rw [if_neg c] at h;cases h
 rw [if_pos c] at h
 obtain rfl:=Option.some.inj h
 exact Any.strings_Trim_laid Tryz.lays160 (by kernel_rfl) a0 a1 w c.1 c.2.1 (ascii_of_all c.2.2)
end
def num_digits.f (a0:ByteArray):Option (Bool):=if a0.toList=([]:List UInt8) then (some false) else ((strings_Trim.f a0 (⟨#[48,49,50,51,52,53,54,55,56,57]⟩:ByteArray)).bind fun t271=>(if t271.toList=([]:List UInt8) then (if 0<(a0.size:Int) then (if (bt a0 0)=48 then (some (a0.toList==([48]:List UInt8))) else (some true)) else (none)) else (some false)))
theorem num_digits.calls (a0:ByteArray) (r:Bool) (w:World) (h:num_digits.f a0=some r) :
  Calls Tryz.prog 106 #[.string a0] w fun e w'=>e = .returned (.bool r)∧Below w.heap.size w w':=by
 have HB:=aZ (Below.refl w.heap.size w)
 have H:=h
 unfold num_digits.f at H
 clear h
 by_cases c2:a0.toList=([]:List UInt8)
 case neg=>
  rw [if_neg c2] at H
  obtain ⟨c2b0,c2b1⟩:=zX c2
  obtain ⟨t271,A3,H⟩:=zB H
  by_cases c4:t271.toList=([]:List UInt8)
  case neg=>
   rw [if_neg c4] at H
   obtain ⟨c4b0,c4b1⟩:=zX c4
   obtain rfl:=Option.some.inj H
   go_enter func106,ntmps106
   go_wp2_with (first|(go_at_call 142;(with_reducible refine (strings_Trim.calls a0 (⟨#[48,49,50,51,52,53,54,55,56,57]⟩:ByteArray) t271 _ A3.out).mono ?_);rintro e w10 ⟨rfl,hb⟩;replace HB:=sB hb;clear hb))
   go_ret
   exact ⟨ze,bw⟩
  rw [if_pos c4] at H
  obtain ⟨c4b0,c4b1⟩:=zY c4
  clear c4
  by_cases c5:0<(a0.size:Int)
  case neg=>
   rw [if_neg c5] at H
   cases H
  rw [if_pos c5] at H
  have c5b0:=decide_eq_true c5
  have c5b1:decide (0<a0.size)=true:=decide_eq_true (by omega)
  clear c5
  by_cases c7:(bt a0 0)=48
  case neg=>
   rw [if_neg c7] at H
   obtain ⟨c7b0,c7b1⟩:=zX c7
   obtain rfl:=Option.some.inj H
   go_enter func106,ntmps106
   go_wp2_with (first|(go_at_call 142;(with_reducible refine (strings_Trim.calls a0 (⟨#[48,49,50,51,52,53,54,55,56,57]⟩:ByteArray) t271 _ A3.out).mono ?_);rintro e w9 ⟨rfl,hb⟩;replace HB:=sB hb;clear hb;have p6:0≤(0:Int):=(by omega);have q6:0<a0.size:=(by have:(0:Int)<(a0.size:Int):=zd;omega);have hx6:∀ h:0<a0.size,((a0[0]'h).toNat:Int)=bt a0 0:=bt_at a0 0;clear p6;have qi6:(0<(a0.size:Int))=True:=eq_true (zd);replace q6:=eq_true q6))
   go_ret
   exact ⟨ze,bw⟩
  rw [if_pos c7] at H
  obtain ⟨c7b0,c7b1⟩:=zY c7
  clear c7
  obtain rfl:=Option.some.inj H
  go_enter func106,ntmps106
  go_wp2_with (first|(go_at_call 142;(with_reducible refine (strings_Trim.calls a0 (⟨#[48,49,50,51,52,53,54,55,56,57]⟩:ByteArray) t271 _ A3.out).mono ?_);rintro e w8 ⟨rfl,hb⟩;replace HB:=sB hb;clear hb;have p6:0≤(0:Int):=(by omega);have q6:0<a0.size:=(by have:(0:Int)<(a0.size:Int):=zd;omega);have hx6:∀ h:0<a0.size,((a0[0]'h).toNat:Int)=bt a0 0:=bt_at a0 0;clear p6;have qi6:(0<(a0.size:Int))=True:=eq_true (zd);replace q6:=eq_true q6))
  go_ret
  exact ⟨ze,bw⟩
 rw [if_pos c2] at H
 obtain ⟨c2b0,c2b1⟩:=zY c2
 clear c2
 obtain rfl:=Option.some.inj H
 go_enter func106,ntmps106
 go_wp2
 go_ret
 exact ⟨ze,bw⟩
section
def strconv_ParseUint.f (a0:ByteArray) (a1:Int) (a2:Int):Option (Int×Option Int) :=
 if a0.size≤9223372036854775806∧a1=10∧a2=32 then (match Lib.parseUintB 32 a0.data.toList with
  | .ok u=>some ((u:Int),none)
  | _=>none) else none
theorem strconv_ParseUint.calls (a0:ByteArray) (a1:Int) (a2:Int) (r1:Int) (r2:Option Int) (w:World) (h:strconv_ParseUint.f a0 a1 a2=some (r1,r2)) :
  Calls Tryz.prog 146 #[.string a0,.int .i64 a1,.int .i64 a2] w fun e w'=>e = .returned (.tuple #[.int .u64 r1,errW r2])∧Below w.heap.size w w':=by
 unfold strconv_ParseUint.f at h
 by_cases c:a0.size≤9223372036854775806∧a1=10∧a2=32
 case neg=>rw [if_neg c] at h;cases h
 rw [if_pos c] at h
 obtain ⟨hs,rfl,rfl⟩:=c
 cases hp:Lib.parseUintB 32 a0.data.toList with
 | ok u =>
  rw [hp] at h
  simp only [Option.some.injEq,Prod.mk.injEq] at h
  obtain ⟨rfl,rfl⟩:=h
  refine (Tryz.strconv_ParseUint_10_at32_ok a0 hs u hp w).mono ?_
  rintro e w' ⟨rfl,rfl|rfl⟩
  ·exact ⟨rfl,Below.refl _ _⟩
  ·exact ⟨rfl,Lib.bytesWorld_below _ _ _⟩
 | _=>rw [hp] at h;cases h
end
def nat_Parse.l0:Nat→ByteArray→List Int→Int→Option (List Int)
 | 0,_,_,_=>none
 | k+1,x0,x3,x4=>if x4 > 0 then (if 0≤(mx (wrap64 (x4-9)) 0) then (if (mx (wrap64 (x4-9)) 0)≤x4 then (if x4≤(x0.size:Int) then ((strconv_ParseUint.f (x0.extract ((mx (wrap64 (x4-9)) 0):Int).toNat (x4:Int).toNat) 10 32).bind fun bt272=>(if x3.length<35184372088832 then (nat_Parse.l0 k x0 (x3++[(bt272.1)%4294967296]) (wrap64 (x4-9))) else (none))) else (none)) else (none)) else (none)) else ((nat_trim.f k x3).bind fun t277=>(some t277))
def nat_Parse.f (k:Nat) (a0:ByteArray):Option (List Int):=nat_Parse.l0 k a0 ([]:List Int) (a0.size:Int)
theorem nat_Parse.mono_l:∀ k,(∀ y0 y1 y2,LeO (nat_Parse.l0 k y0 y1 y2) (nat_Parse.l0 (k+1) y0 y1 y2))
 | 0=>fun _ _ _ r h=>by simp [nat_Parse.l0] at h
 | k+1=>by
  have ih0:=nat_Parse.mono_l k
  ·intro y0 y1 y2
   unfold nat_Parse.l0
   have m0:=nat_trim.mono
   exact zM
theorem nat_Parse.mono:∀ a0 k,LeO (nat_Parse.f k a0) (nat_Parse.f (k+1) a0):=by
 intro a0 k
 have ih0:=nat_Parse.mono_l k
 unfold nat_Parse.f
 have m0:=nat_trim.mono
 exact zM
theorem nat_Parse.calls (k:Nat) (a0:ByteArray) (r:List Int) (w:World) (h:nat_Parse.f k a0=some r) :
  Calls Tryz.prog 108 #[.string a0] w fun e w'=>∃ v0_:Value,e = .returned (v0_)∧Kd.V (Kd.int .u32) 97 w' w.heap.size (fun k_=>(w.heap.size≤k_)) v0_ r∧Below w.heap.size w w':=by
 have HB:=aZ (Below.refl w.heap.size w)
 have H:=h
 unfold nat_Parse.f at H
 clear h
 have H':=aZ H
 clear H
 go_enter func108,ntmps108
 go_wp2
 go_loopg [3,4] k (fun kq v3 v4 w'=>∃ (x3_1:List Int) (x4_1:Int),v4 = .int .i64 x4_1∧Aside0 (nat_Parse.l0 kq a0 x3_1 x4_1=some r)∧Aside0 (kq≤k)∧Aside0 (Kd.R (Kd.int .u32) 97 w' w.heap.size (fun k_=>(w.heap.size≤k_)) v3 x3_1)∧Aside0 (Below w.heap.size w w'))
 case atStart=>exact ⟨(([]:List Int)),((a0.size:Int)),zs,H',⟨Nat.le_refl _⟩,⟨by first|exact Kd.R_nil _ _ _ _ _|exact Kd.N_nil _ _ _ _ _|exact Kd.V_nil _ _ _ _ _|exact Kd.Q_nil _ _ _ _ _|exact Kd.S_nil _ _ _ _ _⟩,⟨bw⟩⟩
 case round =>
  clear H'
  try clear c1
  obtain ⟨x3_1,x4_1,rfl,HA,HK1,HO_3,HB⟩:=hrel
  cases gk with
  | zero=>exact absurd HA.out (by simp [nat_Parse.l0])
  | succ k1 =>
   have H:=HA.out
   clear HA
   simp only [nat_Parse.l0] at H
   by_cases c2:x4_1 > 0
   case neg=>
    rw [if_neg c2] at H
    have c2b0:=decide_eq_false c2
    clear c2
    obtain ⟨t277,A11,H⟩:=zB H
    obtain rfl:=Option.some.inj H
    obtain ⟨Ao12,co12,rfl⟩:=Kd.R_slice HO_3.out
    go_wp2_with (first|(refine zg (some 29) func147 #[.slice Ao12 x3_1.length co12] ?_;(with_reducible refine (nat_trim.calls k1 (fun k_=>some k_=(.slice Ao12 x3_1.length co12:Value).ownBlock) _ _ x3_1 t277 _ ?side1 A11.out).mono ?_);(case side1=>exact Kd.R_V (Kd.R_tight rfl (HO_3.out)));rintro e w13 ⟨v278,rfl,ho0,hb⟩;refine ⟨_,rfl,?_⟩;have HO279:=yL (fun k_=>(w.heap.size≤k_)) ho0 (fun k_ hk_=>Or.elim hk_ (fun hs_=>((HO_3.out).1 k_ hs_.symm)) (fun hn_=>(Nat.le_trans bs hn_)));replace HO_3:=yR HO_3 hb;replace HB:=sB hb;clear hb ho0))
    go_ret
    exact ⟨_,ze,zV HO279,bw⟩
   rw [if_pos c2] at H
   have c2b0:=decide_eq_true c2
   clear c2
   obtain ⟨ji3,hji3⟩:∃ j_:Int,(mx (wrap64 (x4_1-9)) 0)=j_:=⟨_,rfl⟩
   (first|rw [hji3] at H|simp only [hji3] at H)
   have hji3_:(if (wrap64 (x4_1-9))<0 then 0 else (wrap64 (x4_1-9)))=ji3:=hji3
   by_cases c4:0≤(ji3)
   case neg=>
    rw [if_neg c4] at H
    cases H
   rw [if_pos c4] at H
   have c4b0:=eq_true c4
   have c4b1:=decide_eq_true c4
   clear c4
   by_cases c5:(ji3)≤x4_1
   case neg=>
    rw [if_neg c5] at H
    cases H
   rw [if_pos c5] at H
   have c5b0:=eq_true c5
   have c5b1:=decide_eq_true c5
   clear c5
   by_cases c6:x4_1≤(a0.size:Int)
   case neg=>
    rw [if_neg c6] at H
    cases H
   rw [if_pos c6] at H
   have c6b0:=eq_true c6
   have c6b1:=decide_eq_true c6
   clear c6
   obtain ⟨⟨t272,t273⟩,A7,H⟩:=zB H
   (try dsimp only at H)
   by_cases c8:x3_1.length<35184372088832
   case neg=>
    rw [if_neg c8] at H
    cases H
   rw [if_pos c8] at H
   have LMc8:=aZ c8
   clear c8
   obtain ⟨y274,hy274⟩:∃ y_:List Int,y_=(x3_1++[(t272)%4294967296]):=⟨_,rfl⟩
   replace H:(nat_Parse.l0 k1 a0 y274 (wrap64 (x4_1-9)))=some r:=zy hy274 H
   have Ny274:=aZ hy274
   clear hy274
   have H':=aZ H
   clear H
   go_wp2_with (first|((with_reducible refine gate_callee (f:=146) rfl ?_);refine goesL_ (some 20) rfl rfl func146 (by kernel_rfl) rfl #[.string (a0.extract ((ji3):Int).toNat (x4_1:Int).toNat),.int .i64 10,.int .i64 32] rfl (by (try simp only [List.map_toArray,List.map_cons,List.map_nil]);first|done|(simp only [hji3];rfl)|rfl|(simp only [List.length_drop,List.length_take];rfl)) ?_;(with_reducible refine (strconv_ParseUint.calls (a0.extract ((ji3):Int).toNat (x4_1:Int).toNat) 10 32 t272 t273 _ A7.out).mono ?_);rintro e w9 ⟨rfl,hb⟩;refine ⟨_,rfl,?_⟩;replace HO_3:=yR HO_3 hb;replace HB:=sB hb;clear hb;(try simp only [errW_none,errW_some]))|((with_reducible refine gate_builtin (b:=.append) (xs:=#[.tmp 23,.tmp 26]) rfl ?_);at_builtin;refine Kd.R_append (Kd.int .u32) (w0:=w) w.heap.size rfl (.tmp 23) (.tmp 26) 101 97 (.int .u32 0) 4 rfl underlying101 info97 rfl (by decide) (by omega) u3 x3_1 ((t272)%4294967296) [.int .u32 ((t272)%4294967296)] (fun k_=>(w.heap.size≤k_)) (fun _=>False) rfl rfl ?aP (fun _ hk=>hk.elim) ?aF ?aO ?aB ?aS ?aL ?_;(case aP=>exact rfl);(case aB=>exact bw);(case aF=>exact (fun k_ hk=>(Nat.le_trans bs hk)));(case aO=>exact (zR HO_3));(case aS=>exact bs);(case aL=>have:=LMc8.out;omega);intro v275 w10 ho hb hg hat;rw [← Ny274.out] at ho;replace HB:=aZ (hb);have HO276:=aZ (ho);clear HO_3;clear ho hb hg hat))
   go_roundg k1
   case measure=>have:=HK1.out;omega
   case rel=>exact ⟨(y274),(wrap64 (x4_1-9)),zs,H',⟨by have:=HK1.out;omega⟩,⟨zR HO276⟩,⟨bw⟩⟩
attribute [local go_sem high] eqA61
def num_Check.j0:Nat→ByteArray→Bool→Bool→ByteArray→ByteArray→Option (Int)
 | 0,_,_,_,_,_=>none
 | k+1,x3,x4,x11,x281000,x281001=>if x11=true then (some 3) else (if x3.toList=([48]:List UInt8) then (if x4=true then (some 3) else (if x281001.toList=([49]:List UInt8) then (some 0) else (some 3))) else (if x281001.toList=([49]:List UInt8) then (some 0) else ((nat_Parse.f k x3).bind fun t285=>((nat_Parse.f k x281001).bind fun t288=>((nat_Gcd.f k t285 t288).bind fun t291=>((nat_Nat_One.f t291).bind fun t294=>(if t294=true then (some 0) else (some 3))))))))
def num_Check.f (k:Nat) (a0_0:ByteArray) (a0_1:ByteArray):Option (Int):=(strings_CutPrefix.f a0_0 (⟨#[45]⟩:ByteArray)).bind fun bt281=>((num_digits.f bt281.1).bind fun t283=>(if t283=true then ((num_digits.f a0_1).bind fun t284=>(if t284=true then (num_Check.j0 k bt281.1 bt281.2 (a0_1.toList==([48]:List UInt8)) a0_0 a0_1) else (num_Check.j0 k bt281.1 bt281.2 true a0_0 a0_1))) else (num_Check.j0 k bt281.1 bt281.2 true a0_0 a0_1)))
theorem num_Check.mono_l:∀ k,(∀ y0 y1 y2 y3 y4,LeO (num_Check.j0 k y0 y1 y2 y3 y4) (num_Check.j0 (k+1) y0 y1 y2 y3 y4))
 | 0=>fun _ _ _ _ _ r h=>by simp [num_Check.j0] at h
 | k+1=>by
  have ih0:=num_Check.mono_l k
  ·intro y0 y1 y2 y3 y4
   unfold num_Check.j0
   have m0:=nat_Gcd.mono
   have m1:=nat_Parse.mono
   exact zM
theorem num_Check.mono:∀ a0 a1 k,LeO (num_Check.f k a0 a1) (num_Check.f (k+1) a0 a1):=by
 intro a0 a1 k
 have ih0:=num_Check.mono_l k
 unfold num_Check.f
 have m0:=nat_Gcd.mono
 have m1:=nat_Parse.mono
 exact zM
def num_Check.T7:Bool×List (List Nat×List Nat):=(true,[([],[]),([0],[0]),([1],[1]),([2],[2]),([3],[3]),([4,3,3],[3,4]),([3],[3]),([6,3],[3,6]),([7,5,3],[3,7]),([5,8,8,3],[3,5,8]),([9,9,3],[3,9]),([10,3],[3,10]),([3,11],[3,11]),([12,10],[12])])
def num_Check.B7:List Nat:=[0,1,3,7,15,31,15,79,255,511,1023,2047,4095,8191]
theorem num_Check.tab7:rtab .any (opsOf Tryz.f56 7)=num_Check.T7:=by kernel_rfl
theorem num_Check.bits7:waitsOk num_Check.T7.2 num_Check.B7=true:=by kernel_rfl
theorem num_Check.calls (k:Nat) (a0_0:ByteArray) (a0_1:ByteArray) (r:Int) (w:World) (h:num_Check.f k a0_0 a0_1=some r) :
  Calls Tryz.prog 56 #[.agg #[.string a0_0,.string a0_1]] w fun e w'=>e = .returned (.int .i64 r)∧Below w.heap.size w w':=by
 have hu61:=underlying61
 have HB:=aZ (Below.refl w.heap.size w)
 have H:=h
 unfold num_Check.f at H
 clear h
 obtain ⟨⟨t281,t282⟩,A2,H⟩:=zB H
 (try dsimp only at H)
 have HC3:=aZ H
 clear H
 go_enter func56,ntmps56
 go_upto_region 2 with (first|(refine box_ev 1 #[.string a0_0,.string a0_1] 61 ?_;intro gb280 hg w4 hbox hb;have BK280:=aZ hbox;have GE280:=sG hg;replace HB:=sB hb;clear hb hbox hg;obtain ⟨hcz5_0,hfz5_0⟩:=zc BK280 0 (.string a0_0) rfl;obtain ⟨hcz5_1,hfz5_1⟩:=zc BK280 1 (.string a0_1) rfl)|(refine zg (some 8) func102 #[.string a0_0,.string (⟨#[45]⟩:ByteArray)] ?_;(with_reducible refine (strings_CutPrefix.calls a0_0 (⟨#[45]⟩:ByteArray) t281 t282 _ A2.out).mono ?_);rintro e w' ⟨rfl,⟨nd,rfl⟩⟩;refine ⟨_,rfl,?_⟩))
 (try simp only [Act.put,List.setIfInBounds_toArray,List.set_cons_zero,List.set_cons_succ])
 go_cut [11] (fun v11 wc=>∃ (kq:Nat) (x11_2:Bool),v11 = .bool x11_2∧Aside0 (num_Check.j0 kq t281 t282 x11_2 a0_0 a0_1=some r)∧Aside0 (kq≤k)∧Aside0 (wc.heap[gb280]? = some (.cells #[.string a0_0,.string a0_1] 61 (0,0)))∧Aside0 (Below w.heap.size w wc))
 case first =>
  have H:=HC3.out
  clear HC3
  obtain ⟨t283,A6,H⟩:=zB H
  by_cases c7:t283=true
  case neg=>
   replace c7:=Bool.eq_false_iff.mpr c7
   subst c7
   have H1:(num_Check.j0 k t281 t282 true a0_0 a0_1)=some r:=by rw [if_neg (show ¬ (false=true) by decide)] at H;exact H
   clear H
   have H:=H1
   clear H1
   have H':=aZ H
   clear H
   go_wp2_with (first|(refine zg (some 13) func106 #[.string t281] ?_;(with_reducible refine (num_digits.calls t281 false _ A6.out).mono ?_);rintro e w17 ⟨rfl,hb⟩;refine ⟨_,rfl,?_⟩;replace BK280:=sK BK280 hb;replace HB:=sB hb;clear hb))
   go_meet
   case rel=>exact ⟨_,(true),zs,H',⟨by first|omega|exact Nat.le_refl _⟩,⟨zb BK280⟩,⟨bw⟩⟩
  subst c7
  have H1:((num_digits.f a0_1).bind fun t284=>(if t284=true then (num_Check.j0 k t281 t282 (a0_1.toList==([48]:List UInt8)) a0_0 a0_1) else (num_Check.j0 k t281 t282 true a0_0 a0_1)))=some r:=by rw [if_pos rfl] at H;exact H
  clear H
  have H:=H1
  clear H1
  obtain ⟨t284,A8,H⟩:=zB H
  by_cases c9:t284=true
  case neg=>
   replace c9:=Bool.eq_false_iff.mpr c9
   subst c9
   have H1:(num_Check.j0 k t281 t282 true a0_0 a0_1)=some r:=by rw [if_neg (show ¬ (false=true) by decide)] at H;exact H
   clear H
   have H:=H1
   clear H1
   have H':=aZ H
   clear H
   go_wp2_with (first|(refine zg (some 13) func106 #[.string t281] ?_;(with_reducible refine (num_digits.calls t281 true _ A6.out).mono ?_);rintro e w14 ⟨rfl,hb⟩;refine ⟨_,rfl,?_⟩;replace BK280:=sK BK280 hb;replace HB:=sB hb;clear hb;obtain ⟨hcz15_0,hfz15_0⟩:=zc BK280 0 (.string a0_0) rfl;obtain ⟨hcz15_1,hfz15_1⟩:=zc BK280 1 (.string a0_1) rfl)|(go_at_call 106;(with_reducible refine (num_digits.calls a0_1 false _ A8.out).mono ?_);rintro e w16 ⟨rfl,hb⟩;replace BK280:=sK BK280 hb;replace HB:=sB hb;clear hb))
   go_meet
   case rel=>exact ⟨_,(true),zs,H',⟨by first|omega|exact Nat.le_refl _⟩,⟨zb BK280⟩,⟨bw⟩⟩
  subst c9
  have H1:(num_Check.j0 k t281 t282 (a0_1.toList==([48]:List UInt8)) a0_0 a0_1)=some r:=by rw [if_pos rfl] at H;exact H
  clear H
  have H:=H1
  clear H1
  have H':=aZ H
  clear H
  go_wp2_with (first|(refine zg (some 13) func106 #[.string t281] ?_;(with_reducible refine (num_digits.calls t281 true _ A6.out).mono ?_);rintro e w10 ⟨rfl,hb⟩;refine ⟨_,rfl,?_⟩;replace BK280:=sK BK280 hb;replace HB:=sB hb;clear hb;obtain ⟨hcz11_0,hfz11_0⟩:=zc BK280 0 (.string a0_0) rfl;obtain ⟨hcz11_1,hfz11_1⟩:=zc BK280 1 (.string a0_1) rfl)|(go_at_call 106;(with_reducible refine (num_digits.calls a0_1 true _ A8.out).mono ?_);rintro e w12 ⟨rfl,hb⟩;replace BK280:=sK BK280 hb;replace HB:=sB hb;clear hb;obtain ⟨hcz13_0,hfz13_0⟩:=zc BK280 0 (.string a0_0) rfl;obtain ⟨hcz13_1,hfz13_1⟩:=zc BK280 1 (.string a0_1) rfl))
  go_meet
  case rel=>exact ⟨_,((a0_1.toList==([48]:List UInt8))),zs,H',⟨by first|omega|exact Nat.le_refl _⟩,⟨zb BK280⟩,⟨bw⟩⟩
 case rest =>
  clear HC3
  try clear c1
  try clear c5
  try clear c7
  try clear c9
  try clear c10
  try clear hcz11_0
  try clear hcz11_1
  try clear hcz13_0
  try clear hcz13_1
  try clear hcz15_0
  try clear hcz15_1
  try clear hcz5_0
  try clear hcz5_1
  try clear hfz11_0
  try clear hfz11_1
  try clear hfz13_0
  try clear hfz13_1
  try clear hfz15_0
  try clear hfz15_1
  try clear hfz5_0
  try clear hfz5_1
  obtain ⟨kq,x11_2,rfl,HA,HJ2,BK280,HB⟩:=hcut
  cases kq with
  | zero=>exact absurd HA.out (by simp [num_Check.j0])
  | succ kj2 =>
   have H:=HA.out
   clear HA
   simp only [num_Check.j0] at H
   by_cases c18:x11_2=true
   case neg=>
    replace c18:=Bool.eq_false_iff.mpr c18
    subst c18
    have H1:(if t281.toList=([48]:List UInt8) then (if t282=true then (some 3) else (if a0_1.toList=([49]:List UInt8) then (some 0) else (some 3))) else (if a0_1.toList=([49]:List UInt8) then (some 0) else ((nat_Parse.f kj2 t281).bind fun t285=>((nat_Parse.f kj2 a0_1).bind fun t288=>((nat_Gcd.f kj2 t285 t288).bind fun t291=>((nat_Nat_One.f t291).bind fun t294=>(if t294=true then (some 0) else (some 3))))))))=some r:=by rw [if_neg (show ¬ (false=true) by decide)] at H;exact H
    clear H
    have H:=H1
    clear H1
    by_cases c19:t281.toList=([48]:List UInt8)
    case neg=>
     rw [if_neg c19] at H
     obtain ⟨c19b0,c19b1⟩:=zX c19
     by_cases c24:a0_1.toList=([49]:List UInt8)
     case neg=>
      rw [if_neg c24] at H
      obtain ⟨c24b0,c24b1⟩:=zX c24
      obtain ⟨t285,A26,H⟩:=zB H
      obtain ⟨t288,A27,H⟩:=zB H
      obtain ⟨t291,A28,H⟩:=zB H
      obtain ⟨t294,A29,H⟩:=zB H
      by_cases c30:t294=true
      case neg=>
       replace c30:=Bool.eq_false_iff.mpr c30
       subst c30
       have H1:(some 3)=some r:=by rw [if_neg (show ¬ (false=true) by decide)] at H;exact H
       clear H
       have H:=H1
       clear H1
       obtain rfl:=Option.some.inj H
       try go_wp2
       replace BK280:=aZ (blk_drew BK280.out)
       replace HB:=aZ (below_drew1 HB.out)
       refine start_ (n:=14) (S:=fun w'=>w'.cell? ⟨gb280,0,none⟩=some (.string a0_0)∧w'.cell? ⟨gb280,1,none⟩=some (.string a0_1)) (ds:=[]) #[false,false,false,false,false,false,false,false,false,false,false,false,false,false] (by kernel_rfl) rfl rfl ⟨zh BK280 0,zh BK280 1⟩ (fun hHeld=>?_);refine with_tabW num_Check.tab7 num_Check.bits7 (fun HT_ HW_=>?_)
       generalize wc.drew=w38 at BK280 HB hHeld ⊢
       refine pu 0 (some 36) HT_ ?_
       refine tk 1 (some 37) HT_ HW_ hHeld ?_
       refine pu 2 (some 38) HT_ ?_
       refine pu 3 (some 39) HT_ ?_
       refine pu 4 (some 40) HT_ ?_
       refine pu 6 (some 42) HT_ ?_
       refine tk 7 (some 43) HT_ HW_ hHeld ?_
       refine one_ (i:=5) (N:=some 41) #[true,true,true,true,true,true,true,true,false,false,false,false,false,false] rfl rfl (one_of HT_.out (by kernel_rfl)) (by decide) (fun K hK=>?_)
       refine goes_ func108 (by kernel_rfl) rfl #[.string t281] (by rfl) rfl rfl zm ?_
       with_reducible refine (nat_Parse.calls kj2 t281 t285 _ A26.out).mono ?_
       rintro e w39 ⟨v286,rfl,ho0,hb⟩
       refine ⟨_,rfl,?_⟩
       have HO287:=yL (fun k_=>k_≠gb280) ho0 (fun k_ hk_=>(zf BK280 hk_))
       replace BK280:=sK BK280 hb
       replace HB:=sB hb
       clear hb ho0
       refine hK.out _ _ ⟨zh BK280 0,zh BK280 1⟩ (fun hHeld=>?_)
       clear hK K
       refine nm ?_
       refine one_ (i:=8) (N:=some 44) #[true,true,true,true,true,true,true,true,true,false,false,false,false,false] rfl rfl (one_of HT_.out (by kernel_rfl)) (by decide) (fun K hK=>?_)
       refine goes_ func108 (by kernel_rfl) rfl #[.string a0_1] (by rfl) rfl rfl zm ?_
       with_reducible refine (nat_Parse.calls kj2 a0_1 t288 _ A27.out).mono ?_
       rintro e w40 ⟨v289,rfl,ho0,hb⟩
       refine ⟨_,rfl,?_⟩
       replace HO287:=yV HO287 hb
       have HO290:=yL (fun k_=>k_≠gb280) ho0 (fun k_ hk_=>(zf BK280 hk_))
       replace BK280:=sK BK280 hb
       replace HB:=sB hb
       clear hb ho0
       obtain ⟨Ao41,co41,eo41⟩:=Kd.V_slice HO287.out
       (first|subst eo41|(injection eo41 with f1_ f2_ f3_;have f4_:=f1_.symm;have f5_:=f3_.symm;clear f1_ f2_ f3_;subst f4_;subst f5_))
       obtain ⟨Ao42,co42,eo42⟩:=Kd.V_slice HO290.out
       (first|subst eo42|(injection eo42 with f1_ f2_ f3_;have f4_:=f1_.symm;have f5_:=f3_.symm;clear f1_ f2_ f3_;subst f4_;subst f5_))
       refine hK.out _ _ ⟨zh BK280 0,zh BK280 1⟩ (fun hHeld=>?_)
       clear hK K
       refine nm ?_
       refine one_ (i:=9) (N:=some 45) #[true,true,true,true,true,true,true,true,true,true,false,false,false,false] rfl rfl (one_of HT_.out (by kernel_rfl)) (by decide) (fun K hK=>?_)
       refine goes_ func107 (by kernel_rfl) rfl #[.slice Ao41 t285.length co41,.slice Ao42 t288.length co42] (by rfl) rfl rfl zm ?_
       with_reducible refine (nat_Gcd.calls kj2 (fun k_=>k_≠gb280) _ _ t285 (fun k_=>k_≠gb280) _ _ t288 t291 _ ?side1 ?side2 A28.out).mono ?_
       (case side1=>exact HO287.out)
       (case side2=>exact HO290.out)
       rintro e w43 ⟨v292,rfl,ho0,hb⟩
       refine ⟨_,rfl,?_⟩
       replace HO287:=aZ (Kd.V_elder' (zV HO287) (Kd.R_base ho0) hb)
       replace HO290:=aZ (Kd.V_elder' (zV HO290) (Kd.R_base ho0) hb)
       have HO293:=aZ (Kd.R_lower (Kd.R_mono (ok':=fun k_=>True) ho0 (fun _ hk_=>trivial)) bs)
       replace BK280:=sK BK280 hb
       replace HB:=sB hb
       clear hb ho0
       obtain ⟨Ao44,co44,eo44⟩:=Kd.R_slice HO293.out
       (first|subst eo44|(injection eo44 with f1_ f2_ f3_;have f4_:=f1_.symm;have f5_:=f3_.symm;clear f1_ f2_ f3_;subst f4_;subst f5_))
       refine hK.out _ _ ⟨zh BK280 0,zh BK280 1⟩ (fun hHeld=>?_)
       clear hK K
       refine nm ?_
       refine one_ (i:=10) (N:=some 46) #[true,true,true,true,true,true,true,true,true,true,true,false,false,false] rfl rfl (one_of HT_.out (by kernel_rfl)) (by decide) (fun K hK=>?_)
       refine goes_ func109 (by kernel_rfl) rfl #[.slice Ao44 t291.length co44] (by rfl) rfl rfl zm ?_
       with_reducible refine (nat_Nat_One.calls _ _ t291 false _ ?side1 ?side2 A29.out).mono ?_
       (case side1=>exact zC (Kd.R_reads' HO293.out).2.2)
       (case side2=>exact (Kd.R_reads' HO293.out).2.1)
       rintro e w' ⟨rfl,⟨nd,rfl⟩⟩
       refine ⟨_,rfl,?_⟩
       refine hK.out _ _ ⟨zh BK280 0,zh BK280 1⟩ (fun hHeld=>?_)
       clear hK K
       refine nm ?_
       refine pu 11 (some 47) HT_ ?_
       refine pu 12 (some 48) HT_ ?_
       refine pu 13 (some 35) HT_ ?_
       refine done_ (done_of HT_.out (by kernel_rfl)) ?_
       try go_wp2
       go_ret
       exact ⟨ze,bw⟩
      subst c30
      have H1:(some 0)=some r:=by rw [if_pos rfl] at H;exact H
      clear H
      have H:=H1
      clear H1
      obtain rfl:=Option.some.inj H
      try go_wp2
      replace BK280:=aZ (blk_drew BK280.out)
      replace HB:=aZ (below_drew1 HB.out)
      refine start_ (n:=14) (S:=fun w'=>w'.cell? ⟨gb280,0,none⟩=some (.string a0_0)∧w'.cell? ⟨gb280,1,none⟩=some (.string a0_1)) (ds:=[]) #[false,false,false,false,false,false,false,false,false,false,false,false,false,false] (by kernel_rfl) rfl rfl ⟨zh BK280 0,zh BK280 1⟩ (fun hHeld=>?_);refine with_tabW num_Check.tab7 num_Check.bits7 (fun HT_ HW_=>?_)
      generalize wc.drew=w31 at BK280 HB hHeld ⊢
      refine pu 0 (some 36) HT_ ?_
      refine tk 1 (some 37) HT_ HW_ hHeld ?_
      refine pu 2 (some 38) HT_ ?_
      refine pu 3 (some 39) HT_ ?_
      refine pu 4 (some 40) HT_ ?_
      refine pu 6 (some 42) HT_ ?_
      refine tk 7 (some 43) HT_ HW_ hHeld ?_
      refine one_ (i:=5) (N:=some 41) #[true,true,true,true,true,true,true,true,false,false,false,false,false,false] rfl rfl (one_of HT_.out (by kernel_rfl)) (by decide) (fun K hK=>?_)
      refine goes_ func108 (by kernel_rfl) rfl #[.string t281] (by rfl) rfl rfl zm ?_
      with_reducible refine (nat_Parse.calls kj2 t281 t285 _ A26.out).mono ?_
      rintro e w32 ⟨v286,rfl,ho0,hb⟩
      refine ⟨_,rfl,?_⟩
      have HO287:=yL (fun k_=>k_≠gb280) ho0 (fun k_ hk_=>(zf BK280 hk_))
      replace BK280:=sK BK280 hb
      replace HB:=sB hb
      clear hb ho0
      refine hK.out _ _ ⟨zh BK280 0,zh BK280 1⟩ (fun hHeld=>?_)
      clear hK K
      refine nm ?_
      refine one_ (i:=8) (N:=some 44) #[true,true,true,true,true,true,true,true,true,false,false,false,false,false] rfl rfl (one_of HT_.out (by kernel_rfl)) (by decide) (fun K hK=>?_)
      refine goes_ func108 (by kernel_rfl) rfl #[.string a0_1] (by rfl) rfl rfl zm ?_
      with_reducible refine (nat_Parse.calls kj2 a0_1 t288 _ A27.out).mono ?_
      rintro e w33 ⟨v289,rfl,ho0,hb⟩
      refine ⟨_,rfl,?_⟩
      replace HO287:=yV HO287 hb
      have HO290:=yL (fun k_=>k_≠gb280) ho0 (fun k_ hk_=>(zf BK280 hk_))
      replace BK280:=sK BK280 hb
      replace HB:=sB hb
      clear hb ho0
      obtain ⟨Ao34,co34,eo34⟩:=Kd.V_slice HO287.out
      (first|subst eo34|(injection eo34 with f1_ f2_ f3_;have f4_:=f1_.symm;have f5_:=f3_.symm;clear f1_ f2_ f3_;subst f4_;subst f5_))
      obtain ⟨Ao35,co35,eo35⟩:=Kd.V_slice HO290.out
      (first|subst eo35|(injection eo35 with f1_ f2_ f3_;have f4_:=f1_.symm;have f5_:=f3_.symm;clear f1_ f2_ f3_;subst f4_;subst f5_))
      refine hK.out _ _ ⟨zh BK280 0,zh BK280 1⟩ (fun hHeld=>?_)
      clear hK K
      refine nm ?_
      refine one_ (i:=9) (N:=some 45) #[true,true,true,true,true,true,true,true,true,true,false,false,false,false] rfl rfl (one_of HT_.out (by kernel_rfl)) (by decide) (fun K hK=>?_)
      refine goes_ func107 (by kernel_rfl) rfl #[.slice Ao34 t285.length co34,.slice Ao35 t288.length co35] (by rfl) rfl rfl zm ?_
      with_reducible refine (nat_Gcd.calls kj2 (fun k_=>k_≠gb280) _ _ t285 (fun k_=>k_≠gb280) _ _ t288 t291 _ ?side1 ?side2 A28.out).mono ?_
      (case side1=>exact HO287.out)
      (case side2=>exact HO290.out)
      rintro e w36 ⟨v292,rfl,ho0,hb⟩
      refine ⟨_,rfl,?_⟩
      replace HO287:=aZ (Kd.V_elder' (zV HO287) (Kd.R_base ho0) hb)
      replace HO290:=aZ (Kd.V_elder' (zV HO290) (Kd.R_base ho0) hb)
      have HO293:=aZ (Kd.R_lower (Kd.R_mono (ok':=fun k_=>True) ho0 (fun _ hk_=>trivial)) bs)
      replace BK280:=sK BK280 hb
      replace HB:=sB hb
      clear hb ho0
      obtain ⟨Ao37,co37,eo37⟩:=Kd.R_slice HO293.out
      (first|subst eo37|(injection eo37 with f1_ f2_ f3_;have f4_:=f1_.symm;have f5_:=f3_.symm;clear f1_ f2_ f3_;subst f4_;subst f5_))
      refine hK.out _ _ ⟨zh BK280 0,zh BK280 1⟩ (fun hHeld=>?_)
      clear hK K
      refine nm ?_
      refine one_ (i:=10) (N:=some 46) #[true,true,true,true,true,true,true,true,true,true,true,false,false,false] rfl rfl (one_of HT_.out (by kernel_rfl)) (by decide) (fun K hK=>?_)
      refine goes_ func109 (by kernel_rfl) rfl #[.slice Ao37 t291.length co37] (by rfl) rfl rfl zm ?_
      with_reducible refine (nat_Nat_One.calls _ _ t291 true _ ?side1 ?side2 A29.out).mono ?_
      (case side1=>exact zC (Kd.R_reads' HO293.out).2.2)
      (case side2=>exact (Kd.R_reads' HO293.out).2.1)
      rintro e w' ⟨rfl,⟨nd,rfl⟩⟩
      refine ⟨_,rfl,?_⟩
      refine hK.out _ _ ⟨zh BK280 0,zh BK280 1⟩ (fun hHeld=>?_)
      clear hK K
      refine nm ?_
      refine pu 11 (some 47) HT_ ?_
      refine pu 12 (some 48) HT_ ?_
      refine pu 13 (some 35) HT_ ?_
      refine done_ (done_of HT_.out (by kernel_rfl)) ?_
      try go_wp2
      go_ret
      exact ⟨ze,bw⟩
     rw [if_pos c24] at H
     obtain ⟨c24b0,c24b1⟩:=zY c24
     clear c24
     obtain rfl:=Option.some.inj H
     try go_wp2
     replace BK280:=aZ (blk_drew BK280.out)
     replace HB:=aZ (below_drew1 HB.out)
     refine start_ (n:=14) (S:=fun w'=>w'.cell? ⟨gb280,0,none⟩=some (.string a0_0)∧w'.cell? ⟨gb280,1,none⟩=some (.string a0_1)) (ds:=[]) #[false,false,false,false,false,false,false,false,false,false,false,false,false,false] (by kernel_rfl) rfl rfl ⟨zh BK280 0,zh BK280 1⟩ (fun hHeld=>?_);refine with_tabW num_Check.tab7 num_Check.bits7 (fun HT_ HW_=>?_)
     generalize wc.drew=w25 at BK280 HB hHeld ⊢
     refine pu 0 (some 36) HT_ ?_
     refine tk 1 (some 37) HT_ HW_ hHeld ?_
     refine pu 2 (some 38) HT_ ?_
     refine pu 3 (some 39) HT_ ?_
     refine pure_ (i:=4) (N:=some 40) (v:=undef) (a':=?_) #[true,true,true,true,true,false,false,false,false,false,false,false,false,false] rfl rfl (any_of HT_.out (by kernel_rfl)) (fun _ _ _ h=>h) (Or.inr ⟨by rfl,rfl⟩) ?_ ?_
     rotate_left
     ·simp only [Act.put,List.setIfInBounds_toArray,List.set_cons_zero,List.set_cons_succ,i64_w,i32_w]
      rfl
     refine pure_ (i:=5) (N:=some 41) (v:=undef) (a':=?_) #[true,true,true,true,true,true,false,false,false,false,false,false,false,false] rfl rfl (any_of HT_.out (by kernel_rfl)) (fun _ _ _ h=>h) (Or.inr ⟨by rfl,rfl⟩) ?_ ?_
     rotate_left
     ·simp only [Act.put,List.setIfInBounds_toArray,List.set_cons_zero,List.set_cons_succ,i64_w,i32_w]
      rfl
     refine pure_ (i:=6) (N:=some 42) (v:=undef) (a':=?_) #[true,true,true,true,true,true,true,false,false,false,false,false,false,false] rfl rfl (any_of HT_.out (by kernel_rfl)) (fun _ _ _ h=>h) (Or.inr ⟨by rfl,rfl⟩) ?_ ?_
     rotate_left
     ·simp only [Act.put,List.setIfInBounds_toArray,List.set_cons_zero,List.set_cons_succ,i64_w,i32_w]
      rfl
     refine pure_ (i:=7) (N:=some 43) (v:=undef) (a':=?_) #[true,true,true,true,true,true,true,true,false,false,false,false,false,false] rfl rfl (any_of HT_.out (by kernel_rfl)) (fun _ _ _ h=>h) (Or.inr ⟨by rfl,rfl⟩) ?_ ?_
     rotate_left
     ·simp only [Act.put,List.setIfInBounds_toArray,List.set_cons_zero,List.set_cons_succ,i64_w,i32_w]
      rfl
     refine pure_ (i:=8) (N:=some 44) (v:=undef) (a':=?_) #[true,true,true,true,true,true,true,true,true,false,false,false,false,false] rfl rfl (any_of HT_.out (by kernel_rfl)) (fun _ _ _ h=>h) (Or.inr ⟨by rfl,rfl⟩) ?_ ?_
     rotate_left
     ·simp only [Act.put,List.setIfInBounds_toArray,List.set_cons_zero,List.set_cons_succ,i64_w,i32_w]
      rfl
     refine pure_ (i:=9) (N:=some 45) (v:=undef) (a':=?_) #[true,true,true,true,true,true,true,true,true,true,false,false,false,false] rfl rfl (any_of HT_.out (by kernel_rfl)) (fun _ _ _ h=>h) (Or.inr ⟨by rfl,rfl⟩) ?_ ?_
     rotate_left
     ·simp only [Act.put,List.setIfInBounds_toArray,List.set_cons_zero,List.set_cons_succ,i64_w,i32_w]
      rfl
     refine pure_ (i:=10) (N:=some 46) (v:=undef) (a':=?_) #[true,true,true,true,true,true,true,true,true,true,true,false,false,false] rfl rfl (any_of HT_.out (by kernel_rfl)) (fun _ _ _ h=>h) (Or.inr ⟨by rfl,rfl⟩) ?_ ?_
     rotate_left
     ·simp only [Act.put,List.setIfInBounds_toArray,List.set_cons_zero,List.set_cons_succ,i64_w,i32_w]
      rfl
     refine pure_ (i:=11) (N:=some 47) (v:=undef) (a':=?_) #[true,true,true,true,true,true,true,true,true,true,true,true,false,false] rfl rfl (any_of HT_.out (by kernel_rfl)) (fun _ _ _ h=>h) (Or.inr ⟨by rfl,rfl⟩) ?_ ?_
     rotate_left
     ·simp only [Act.put,List.setIfInBounds_toArray,List.set_cons_zero,List.set_cons_succ,i64_w,i32_w]
      rfl
     refine pu 12 (some 48) HT_ ?_
     refine pu 13 (some 35) HT_ ?_
     refine done_ (done_of HT_.out (by kernel_rfl)) ?_
     try go_wp2
     go_ret
     exact ⟨ze,bw⟩
    rw [if_pos c19] at H
    obtain ⟨c19b0,c19b1⟩:=zY c19
    clear c19
    by_cases c20:t282=true
    case neg=>
     replace c20:=Bool.eq_false_iff.mpr c20
     subst c20
     have H1:(if a0_1.toList=([49]:List UInt8) then (some 0) else (some 3))=some r:=by rw [if_neg (show ¬ (false=true) by decide)] at H;exact H
     clear H
     have H:=H1
     clear H1
     by_cases c21:a0_1.toList=([49]:List UInt8)
     case neg=>
      rw [if_neg c21] at H
      obtain ⟨c21b0,c21b1⟩:=zX c21
      obtain rfl:=Option.some.inj H
      have hcz23_0:wc.cell? ⟨gb280,0,none⟩=some (.string a0_0):=(blk_cell BK280.out 0).trans rfl
      have hcz23_1:wc.cell? ⟨gb280,1,none⟩=some (.string a0_1):=(blk_cell BK280.out 1).trans rfl
      have hfz23_0:=blk_frozen BK280.out 0
      have hfz23_1:=blk_frozen BK280.out 1
      go_wp2
      go_ret
      exact ⟨ze,bw⟩
     rw [if_pos c21] at H
     obtain ⟨c21b0,c21b1⟩:=zY c21
     clear c21
     obtain rfl:=Option.some.inj H
     have hcz22_0:wc.cell? ⟨gb280,0,none⟩=some (.string a0_0):=(blk_cell BK280.out 0).trans rfl
     have hcz22_1:wc.cell? ⟨gb280,1,none⟩=some (.string a0_1):=(blk_cell BK280.out 1).trans rfl
     have hfz22_0:=blk_frozen BK280.out 0
     have hfz22_1:=blk_frozen BK280.out 1
     go_wp2
     go_ret
     exact ⟨ze,bw⟩
    subst c20
    have H1:(some 3)=some r:=by rw [if_pos rfl] at H;exact H
    clear H
    have H:=H1
    clear H1
    obtain rfl:=Option.some.inj H
    go_wp2
    go_ret
    exact ⟨ze,bw⟩
   subst c18
   have H1:(some 3)=some r:=by rw [if_pos rfl] at H;exact H
   clear H
   have H:=H1
   clear H1
   obtain rfl:=Option.some.inj H
   go_wp2
   go_ret
   exact ⟨ze,bw⟩
def weftlaw1_nums.f (k:Nat)  : Option (Bool):=(num_Make.f k 6 (-4)).bind fun bt295=>(if bt295.2.2=0 then (if (bt295.1.toList==([45,51]:List UInt8)&&(bt295.2.1.toList==([50]:List UInt8)))=true then ((num_Check.f k bt295.1 bt295.2.1).bind fun t299=>(if t299=0 then ((num_Check.f k (⟨#[]⟩:ByteArray) (⟨#[]⟩:ByteArray)).bind fun t300=>(some (t300==3))) else (some false))) else (some false)) else (some false))
theorem weftlaw1_nums.mono:∀ k,LeO (weftlaw1_nums.f k ) (weftlaw1_nums.f (k+1) ):=by
 intro  k
 unfold weftlaw1_nums.f
 have m0:=num_Check.mono
 have m1:=num_Make.mono
 exact zM
theorem weftlaw1_nums.calls (k:Nat)  (r:Bool) (w:World) (hG:Tryz.Gl w) (h:weftlaw1_nums.f k  = some r) :
  Calls Tryz.prog 20 #[] w fun e w'=>e = .returned (.bool r)∧Below w.heap.size w w':=by
 have hu61:=underlying61
 have HG:=aZ hG
 clear hG
 have HB:=aZ (Below.refl w.heap.size w)
 have H:=h
 unfold weftlaw1_nums.f at H
 clear h
 obtain ⟨⟨t295,t296,t297⟩,A1,H⟩:=zB H
 (try dsimp only at H)
 by_cases c2:t297=0
 case neg=>
  rw [if_neg c2] at H
  obtain ⟨c2b0,c2b1⟩:=zX c2
  obtain rfl:=Option.some.inj H
  go_enter func20,ntmps20
  go_wp2_with (first|(refine zg (some 4) func46 #[.int .i64 6,.int .i64 (-4)] ?_;(with_reducible refine (num_Make.calls k 6 (-4) t295 t296 t297 _ ?side1 A1.out).mono ?_);(case side1=>exact Tryz.Gl.below HG.out bw);rintro e w19 ⟨rfl,hb⟩;refine ⟨_,rfl,?_⟩;replace HB:=sB hb;clear hb)|(refine box_ev 1 #[.string ⟨#[]⟩,.string ⟨#[]⟩] 61 ?_;intro gb298 hg w20 hbox hb;have BK298:=aZ hbox;have GE298:=sG hg;replace HB:=sB hb;clear hb hbox hg;obtain ⟨hcz21_0,hfz21_0⟩:=zc BK298 0 (.string ⟨#[]⟩) rfl;obtain ⟨hcz21_1,hfz21_1⟩:=zc BK298 1 (.string ⟨#[]⟩) rfl))
  go_ret
  exact ⟨ze,bw⟩
 rw [if_pos c2] at H
 obtain ⟨c2b0,c2b1⟩:=zY c2
 clear c2
 by_cases c3:(t295.toList==([45,51]:List UInt8)&&(t296.toList==([50]:List UInt8)))=true
 case neg=>
  rw [if_neg c3] at H
  have c3b0:(t295.toList==([45,51]:List UInt8)&&(t296.toList==([50]:List UInt8)))=false:=by simpa using c3
  (try (have c3b1:decide (t295.toList=([45,51]:List UInt8)&&(t296.toList==([50]:List UInt8)))=false:=by simpa using c3))
  (try (have c3b2:(t295.toList==([45,51]:List UInt8)&&(t296.toList==([50]:List UInt8)))=false:=by simpa using c3))
  (try (have c3b3:¬ (t295.toList=([45,51]:List UInt8)&&(t296.toList==([50]:List UInt8))):=by simpa using c3))
  clear c3
  obtain rfl:=Option.some.inj H
  go_enter func20,ntmps20
  go_wp2_with (first|(refine zg (some 4) func46 #[.int .i64 6,.int .i64 (-4)] ?_;(with_reducible refine (num_Make.calls k 6 (-4) t295 t296 t297 _ ?side1 A1.out).mono ?_);(case side1=>exact Tryz.Gl.below HG.out bw);rintro e w16 ⟨rfl,hb⟩;refine ⟨_,rfl,?_⟩;replace HB:=sB hb;clear hb)|(refine box_ev 1 #[.string ⟨#[]⟩,.string ⟨#[]⟩] 61 ?_;intro gb298 hg w17 hbox hb;have BK298:=aZ hbox;have GE298:=sG hg;replace HB:=sB hb;clear hb hbox hg;obtain ⟨hcz18_0,hfz18_0⟩:=zc BK298 0 (.string ⟨#[]⟩) rfl;obtain ⟨hcz18_1,hfz18_1⟩:=zc BK298 1 (.string ⟨#[]⟩) rfl))
  go_ret
  exact ⟨ze,bw⟩
 rw [if_pos c3] at H
 have c3b0:(t295.toList==([45,51]:List UInt8)&&(t296.toList==([50]:List UInt8)))=true:=c3
 (try (have c3b1:decide (t295.toList=([45,51]:List UInt8)&&(t296.toList==([50]:List UInt8)))=true:=by simpa using c3))
 (try (have c3b2:(t295.toList==([45,51]:List UInt8)&&(t296.toList==([50]:List UInt8)))=true:=by simpa using c3))
 clear c3
 obtain ⟨t299,A4,H⟩:=zB H
 by_cases c5:t299=0
 case neg=>
  rw [if_neg c5] at H
  obtain ⟨c5b0,c5b1⟩:=zX c5
  obtain rfl:=Option.some.inj H
  go_enter func20,ntmps20
  go_wp2_with (first|(refine zg (some 4) func46 #[.int .i64 6,.int .i64 (-4)] ?_;(with_reducible refine (num_Make.calls k 6 (-4) t295 t296 t297 _ ?side1 A1.out).mono ?_);(case side1=>exact Tryz.Gl.below HG.out bw);rintro e w12 ⟨rfl,hb⟩;refine ⟨_,rfl,?_⟩;replace HB:=sB hb;clear hb)|(refine box_ev 1 #[.string ⟨#[]⟩,.string ⟨#[]⟩] 61 ?_;intro gb298 hg w13 hbox hb;have BK298:=aZ hbox;have GE298:=sG hg;replace HB:=sB hb;clear hb hbox hg;obtain ⟨hcz14_0,hfz14_0⟩:=zc BK298 0 (.string ⟨#[]⟩) rfl;obtain ⟨hcz14_1,hfz14_1⟩:=zc BK298 1 (.string ⟨#[]⟩) rfl)|(go_at_call 56;(with_reducible refine (num_Check.calls k t295 t296 t299 _ A4.out).mono ?_);rintro e w15 ⟨rfl,hb⟩;replace BK298:=sP (.cells #[.string t295,.string t296] 61 (0,0)) BK298 hb;replace HB:=sB hb;clear hb))
  go_ret
  exact ⟨ze,bw⟩
 rw [if_pos c5] at H
 obtain ⟨c5b0,c5b1⟩:=zY c5
 clear c5
 obtain ⟨t300,A6,H⟩:=zB H
 obtain rfl:=Option.some.inj H
 go_enter func20,ntmps20
 go_wp2_with (first|(refine zg (some 4) func46 #[.int .i64 6,.int .i64 (-4)] ?_;(with_reducible refine (num_Make.calls k 6 (-4) t295 t296 t297 _ ?side1 A1.out).mono ?_);(case side1=>exact Tryz.Gl.below HG.out bw);rintro e w7 ⟨rfl,hb⟩;refine ⟨_,rfl,?_⟩;replace HB:=sB hb;clear hb)|(refine box_ev 1 #[.string ⟨#[]⟩,.string ⟨#[]⟩] 61 ?_;intro gb298 hg w8 hbox hb;have BK298:=aZ hbox;have GE298:=sG hg;replace HB:=sB hb;clear hb hbox hg;obtain ⟨hcz9_0,hfz9_0⟩:=zc BK298 0 (.string ⟨#[]⟩) rfl;obtain ⟨hcz9_1,hfz9_1⟩:=zc BK298 1 (.string ⟨#[]⟩) rfl)|(go_at_call 56;(with_reducible refine (num_Check.calls k t295 t296 t299 _ A4.out).mono ?_);rintro e w10 ⟨rfl,hb⟩;replace BK298:=sP (.cells #[.string t295,.string t296] 61 (0,0)) BK298 hb;replace HB:=sB hb;clear hb)|(go_at_call 56;(with_reducible refine (num_Check.calls k (⟨#[]⟩:ByteArray) (⟨#[]⟩:ByteArray) t300 _ A6.out).mono ?_);rintro e w11 ⟨rfl,hb⟩;replace BK298:=sK BK298 hb;replace HB:=sB hb;clear hb))
 go_ret
 exact ⟨ze,bw⟩
def weftmake_Stream_Pick.f (s0_0:List Int) (s0_1:Int) (l1:List Int):Option (Int×Int):=(weftmake_Stream_Next.f s0_0 s0_1 (l1.length:Int)).bind fun bt327=>(if 0≤bt327.1 then (if bt327.1<(l1.length:Int) then (some (rd l1 bt327.1,bt327.2)) else (none)) else (none))
theorem weftmake_Stream_Pick.calls (g:Nat) (s0_0:List Int) (s0_1:Int) (A1:Option Addr) (c1:Nat) (l1:List Int) (r1:Int) (r2:Int) (w0 w:World) (hI:IsS44 w0 w g s0_0 s0_1) (hB:Below w0.heap.size w0 w) (hr1:Kd.C (Kd.int .i64) w A1 l1.length l1) (hc1:l1.length≤c1) (hf1:∀ ad,A1=some ad→0<l1.length→ad.block≠g) (h:weftmake_Stream_Pick.f s0_0 s0_1 l1=some (r1,r2)) :
  Calls Tryz.prog 122 #[.pointer (some ⟨g,0,none⟩),.slice A1 l1.length c1] w fun e w'=>e = .returned (.int .i64 r1)∧IsS44 w0 w' g s0_0 r2∧Below w0.heap.size w0 w'∧KeepBut w w' g none:=by
 have HR1:=aZ hr1
 have HC1:=aZ hc1
 clear hr1 hc1
 have HI0:=aZ hI
 have HK:=aZ (KeepBut.refl w g none)
 have HL:=aZ hB.size
 clear hI
 have HW0:=aZ hB.size
 have HB:=aZ hB
 clear hB
 have H:=h
 unfold weftmake_Stream_Pick.f at H
 clear h
 obtain ⟨⟨t327,t328⟩,A3,H⟩:=zB H
 (try dsimp only at H)
 by_cases c4:0≤t327
 case neg=>
  rw [if_neg c4] at H
  cases H
 rw [if_pos c4] at H
 have c4b0:=decide_eq_true c4
 clear c4
 by_cases c5:t327<(l1.length:Int)
 case neg=>
  rw [if_neg c5] at H
  cases H
 rw [if_pos c5] at H
 have c5b0:=decide_eq_true c5
 clear c5
 simp only [Option.some.injEq,Prod.mk.injEq] at H
 obtain ⟨rfl,rfl⟩:=H
 go_enter func122,ntmps122
 go_wp2_with (first|(refine zg (some 9) func33 #[.pointer (some ⟨g,0,none⟩),.int .i64 (l1.length:Int)] ?_;(with_reducible refine (weftmake_Stream_Next.calls g s0_0 s0_1 (l1.length:Int) t327 t328 w0 _ ?side1 ?side2 A3.out).mono ?_);(case side1=>exact zi HI0);(case side2=>exact bw);rintro e w6 ⟨rfl,hi,hb,hk⟩;refine ⟨_,rfl,?_⟩;replace HK:=sT hk;replace HB:=aZ (hb);replace HI0:=aZ (hi);clear hb hk hi;have p329:0≤(t327:Int):=zd;have q329:t327<(l1.length:Int):=zd;obtain ⟨ad329,e329,hx329_0⟩:=Kd.at_int HR1.out t327 p329 q329;cases e329;replace hx329_0:=keep_cell HK.out hx329_0 (by first|(rw [add_block];exact hf1 _ rfl (by omega))|exact hf1 _ rfl (by omega)|exact hf1 ad329 rfl (by omega));replace p329:=eq_true p329;replace q329:=eq_true q329))
 go_ret
 exact ⟨ze,zi HI0,bw,kk⟩
def weftmake_Stream_Word.f (s0_0:List Int) (s0_1:Int):Option (Int×Int):=(weftmake_Stream_Next.f s0_0 s0_1 6).bind fun bt330=>(if bt330.1=0 then ((weftmake_Stream_Next.f s0_0 bt330.2 3).bind fun bt332=>(some (wrap64 ((-2147483648)+bt332.1),bt332.2))) else (if bt330.1=1 then ((weftmake_Stream_Next.f s0_0 bt330.2 3).bind fun bt334=>(some (wrap64 (2147483647-bt334.1),bt334.2))) else (if bt330.1=2 then ((weftmake_Stream_Next.f s0_0 bt330.2 1073741824).bind fun bt336=>((weftmake_Stream_Next.f s0_0 bt336.2 4).bind fun bt338=>(some (wrap64 ((wrap64 ((wrap64 (bt336.1*4))+bt338.1))+(-2147483648)),bt338.2)))) else ((weftmake_Stream_Range.f s0_0 bt330.2 (-9) 9).bind fun bt340=>(some (bt340.1,bt340.2))))))
theorem weftmake_Stream_Word.calls (g:Nat) (s0_0:List Int) (s0_1:Int) (r1:Int) (r2:Int) (w0 w:World) (hI:IsS44 w0 w g s0_0 s0_1) (hB:Below w0.heap.size w0 w) (h:weftmake_Stream_Word.f s0_0 s0_1=some (r1,r2)) :
  Calls Tryz.prog 123 #[.pointer (some ⟨g,0,none⟩)] w fun e w'=>e = .returned (.int .i64 r1)∧IsS44 w0 w' g s0_0 r2∧Below w0.heap.size w0 w'∧KeepBut w w' g none:=by
 have HI0:=aZ hI
 have HK:=aZ (KeepBut.refl w g none)
 have HL:=aZ hB.size
 clear hI
 have HW0:=aZ hB.size
 have HB:=aZ hB
 clear hB
 have H:=h
 unfold weftmake_Stream_Word.f at H
 clear h
 obtain ⟨⟨t330,t331⟩,A2,H⟩:=zB H
 (try dsimp only at H)
 by_cases c3:t330=0
 case neg=>
  rw [if_neg c3] at H
  obtain ⟨c3b0,c3b1⟩:=zX c3
  by_cases c7:t330=1
  case neg=>
   rw [if_neg c7] at H
   obtain ⟨c7b0,c7b1⟩:=zX c7
   by_cases c11:t330=2
   case neg=>
    rw [if_neg c11] at H
    obtain ⟨c11b0,c11b1⟩:=zX c11
    obtain ⟨⟨t340,t341⟩,A17,H⟩:=zB H
    (try dsimp only at H)
    simp only [Option.some.injEq,Prod.mk.injEq] at H
    obtain ⟨rfl,rfl⟩:=H
    go_enter func123,ntmps123
    go_wp2_with (first|(refine zg (some 4) func33 #[.pointer (some ⟨g,0,none⟩),.int .i64 6] ?_;(with_reducible refine (weftmake_Stream_Next.calls g s0_0 s0_1 6 t330 t331 w0 _ ?side1 ?side2 A2.out).mono ?_);(case side1=>exact zi HI0);(case side2=>exact bw);rintro e w18 ⟨rfl,hi,hb,hk⟩;refine ⟨_,rfl,?_⟩;replace HK:=sT hk;replace HB:=aZ (hb);replace HI0:=aZ (hi);clear hb hk hi)|(refine zg (some 25) func37 #[.pointer (some ⟨g,0,none⟩),.int .i64 (-9),.int .i64 9] ?_;(with_reducible refine (weftmake_Stream_Range.calls g s0_0 t331 (-9) 9 t340 t341 w0 _ ?side1 ?side2 A17.out).mono ?_);(case side1=>exact zi HI0);(case side2=>exact bw);rintro e w19 ⟨rfl,hi,hb,hk⟩;refine ⟨_,rfl,?_⟩;replace HK:=sT hk;replace HB:=aZ (hb);replace HI0:=aZ (hi);clear hb hk hi))
    go_ret
    exact ⟨ze,zi HI0,bw,kk⟩
   rw [if_pos c11] at H
   obtain ⟨c11b0,c11b1⟩:=zY c11
   clear c11
   obtain ⟨⟨t336,t337⟩,A12,H⟩:=zB H
   (try dsimp only at H)
   obtain ⟨⟨t338,t339⟩,A13,H⟩:=zB H
   (try dsimp only at H)
   simp only [Option.some.injEq,Prod.mk.injEq] at H
   obtain ⟨rfl,rfl⟩:=H
   go_enter func123,ntmps123
   go_wp2_with (first|(refine zg (some 4) func33 #[.pointer (some ⟨g,0,none⟩),.int .i64 6] ?_;(with_reducible refine (weftmake_Stream_Next.calls g s0_0 s0_1 6 t330 t331 w0 _ ?side1 ?side2 A2.out).mono ?_);(case side1=>exact zi HI0);(case side2=>exact bw);rintro e w14 ⟨rfl,hi,hb,hk⟩;refine ⟨_,rfl,?_⟩;replace HK:=sT hk;replace HB:=aZ (hb);replace HI0:=aZ (hi);clear hb hk hi)|(refine zg (some 18) func33 #[.pointer (some ⟨g,0,none⟩),.int .i64 1073741824] ?_;(with_reducible refine (weftmake_Stream_Next.calls g s0_0 t331 1073741824 t336 t337 w0 _ ?side1 ?side2 A12.out).mono ?_);(case side1=>exact zi HI0);(case side2=>exact bw);rintro e w15 ⟨rfl,hi,hb,hk⟩;refine ⟨_,rfl,?_⟩;replace HK:=sT hk;replace HB:=aZ (hb);replace HI0:=aZ (hi);clear hb hk hi)|(refine zg (some 21) func33 #[.pointer (some ⟨g,0,none⟩),.int .i64 4] ?_;(with_reducible refine (weftmake_Stream_Next.calls g s0_0 t337 4 t338 t339 w0 _ ?side1 ?side2 A13.out).mono ?_);(case side1=>exact zi HI0);(case side2=>exact bw);rintro e w16 ⟨rfl,hi,hb,hk⟩;refine ⟨_,rfl,?_⟩;replace HK:=sT hk;replace HB:=aZ (hb);replace HI0:=aZ (hi);clear hb hk hi))
   go_ret
   exact ⟨ze,zi HI0,bw,kk⟩
  rw [if_pos c7] at H
  obtain ⟨c7b0,c7b1⟩:=zY c7
  clear c7
  obtain ⟨⟨t334,t335⟩,A8,H⟩:=zB H
  (try dsimp only at H)
  simp only [Option.some.injEq,Prod.mk.injEq] at H
  obtain ⟨rfl,rfl⟩:=H
  go_enter func123,ntmps123
  go_wp2_with (first|(refine zg (some 4) func33 #[.pointer (some ⟨g,0,none⟩),.int .i64 6] ?_;(with_reducible refine (weftmake_Stream_Next.calls g s0_0 s0_1 6 t330 t331 w0 _ ?side1 ?side2 A2.out).mono ?_);(case side1=>exact zi HI0);(case side2=>exact bw);rintro e w9 ⟨rfl,hi,hb,hk⟩;refine ⟨_,rfl,?_⟩;replace HK:=sT hk;replace HB:=aZ (hb);replace HI0:=aZ (hi);clear hb hk hi)|(refine zg (some 13) func33 #[.pointer (some ⟨g,0,none⟩),.int .i64 3] ?_;(with_reducible refine (weftmake_Stream_Next.calls g s0_0 t331 3 t334 t335 w0 _ ?side1 ?side2 A8.out).mono ?_);(case side1=>exact zi HI0);(case side2=>exact bw);rintro e w10 ⟨rfl,hi,hb,hk⟩;refine ⟨_,rfl,?_⟩;replace HK:=sT hk;replace HB:=aZ (hb);replace HI0:=aZ (hi);clear hb hk hi))
  go_ret
  exact ⟨ze,zi HI0,bw,kk⟩
 rw [if_pos c3] at H
 obtain ⟨c3b0,c3b1⟩:=zY c3
 clear c3
 obtain ⟨⟨t332,t333⟩,A4,H⟩:=zB H
 (try dsimp only at H)
 simp only [Option.some.injEq,Prod.mk.injEq] at H
 obtain ⟨rfl,rfl⟩:=H
 go_enter func123,ntmps123
 go_wp2_with (first|(refine zg (some 4) func33 #[.pointer (some ⟨g,0,none⟩),.int .i64 6] ?_;(with_reducible refine (weftmake_Stream_Next.calls g s0_0 s0_1 6 t330 t331 w0 _ ?side1 ?side2 A2.out).mono ?_);(case side1=>exact zi HI0);(case side2=>exact bw);rintro e w5 ⟨rfl,hi,hb,hk⟩;refine ⟨_,rfl,?_⟩;replace HK:=sT hk;replace HB:=aZ (hb);replace HI0:=aZ (hi);clear hb hk hi)|(refine zg (some 8) func33 #[.pointer (some ⟨g,0,none⟩),.int .i64 3] ?_;(with_reducible refine (weftmake_Stream_Next.calls g s0_0 t331 3 t332 t333 w0 _ ?side1 ?side2 A4.out).mono ?_);(case side1=>exact zi HI0);(case side2=>exact bw);rintro e w6 ⟨rfl,hi,hb,hk⟩;refine ⟨_,rfl,?_⟩;replace HK:=sT hk;replace HB:=aZ (hb);replace HI0:=aZ (hi);clear hb hk hi))
 go_ret
 exact ⟨ze,zi HI0,bw,kk⟩
def weftmake_Stream_Flip.f (s0_0:List Int) (s0_1:Int) (a1:Int):Option (Bool×Int):=(weftmake_Stream_Next.f s0_0 s0_1 a1).bind fun bt342=>(some ((bt342.1==0),bt342.2))
theorem weftmake_Stream_Flip.calls (g:Nat) (s0_0:List Int) (s0_1:Int) (a1:Int) (r1:Bool) (r2:Int) (w0 w:World) (hI:IsS44 w0 w g s0_0 s0_1) (hB:Below w0.heap.size w0 w) (h:weftmake_Stream_Flip.f s0_0 s0_1 a1=some (r1,r2)) :
  Calls Tryz.prog 78 #[.pointer (some ⟨g,0,none⟩),.int .i64 a1] w fun e w'=>e = .returned (.bool r1)∧IsS44 w0 w' g s0_0 r2∧Below w0.heap.size w0 w'∧KeepBut w w' g none:=by
 have HI0:=aZ hI
 have HK:=aZ (KeepBut.refl w g none)
 have HL:=aZ hB.size
 clear hI
 have HW0:=aZ hB.size
 have HB:=aZ hB
 clear hB
 have H:=h
 unfold weftmake_Stream_Flip.f at H
 clear h
 obtain ⟨⟨t342,t343⟩,A3,H⟩:=zB H
 (try dsimp only at H)
 simp only [Option.some.injEq,Prod.mk.injEq] at H
 obtain ⟨rfl,rfl⟩:=H
 go_enter func78,ntmps78
 go_wp2_with (first|(refine zg (some 7) func33 #[.pointer (some ⟨g,0,none⟩),.int .i64 a1] ?_;(with_reducible refine (weftmake_Stream_Next.calls g s0_0 s0_1 a1 t342 t343 w0 _ ?side1 ?side2 A3.out).mono ?_);(case side1=>exact zi HI0);(case side2=>exact bw);rintro e w4 ⟨rfl,hi,hb,hk⟩;refine ⟨_,rfl,?_⟩;replace HK:=sT hk;replace HB:=aZ (hb);replace HI0:=aZ (hi);clear hb hk hi))
 go_ret
 exact ⟨ze,zi HI0,bw,kk⟩
def weftmake_Stream_Long.l0:Nat→List Int→Int→Int→List Int→Int→Option (ByteArray×ByteArray×Int)
 | 0,_,_,_,_,_=>none
 | k+1,x3,x7,x8,x1000,x1001=>if x8<x7 then (if x3.length<140737488355328 then (weftmake_Stream_Long.l0 k (x3++[48]) x7 (wrap64 (x8+1)) x1000 x1001) else (none)) else (if x3.length<140737488355328 then ((some (x3++[49]:List Int)).bind fun y353=>((weftmake_Stream_Flip.f x1000 x1001 2).bind fun bt357=>(if bt357.1=true then ((weftmake_Stream_Range.f x1000 bt357.2 0 20).bind fun bt359=>(if 0≤bt359.1 then ((strconv_Itoa.f (shl .i64 1 bt359.1)).bind fun t361=>((weftmake_Stream_Flip.f x1000 bt359.2 2).bind fun bt362=>(if bt362.1=true then (if 1+(strOfNums y353).size≤9223372036854775807 then (some ((⟨#[45]⟩:ByteArray)++(strOfNums y353),t361,bt362.2)) else (none)) else (some (strOfNums y353,t361,bt362.2))))) else (none))) else ((weftmake_Stream_Flip.f x1000 bt357.2 2).bind fun bt364=>(if bt364.1=true then (if 1+(strOfNums y353).size≤9223372036854775807 then (some ((⟨#[45]⟩:ByteArray)++(strOfNums y353),(⟨#[49]⟩:ByteArray),bt364.2)) else (none)) else (some (strOfNums y353,(⟨#[49]⟩:ByteArray),bt364.2))))))) else (none))
def weftmake_Stream_Long.f (k:Nat) (s0_0:List Int) (s0_1:Int):Option (ByteArray×ByteArray×Int):=(weftmake_Stream_Range.f s0_0 s0_1 1 60).bind fun bt348=>(weftmake_Stream_Long.l0 k (([49]:List Int)) bt348.1 0 s0_0 bt348.2)
theorem weftmake_Stream_Long.calls (k:Nat) (g:Nat) (s0_0:List Int) (s0_1:Int) (r1:ByteArray) (r2:ByteArray) (r3:Int) (w0 w:World) (hI:IsS44 w0 w g s0_0 s0_1) (hB:Below w0.heap.size w0 w) (hG:Tryz.Gl w0) (h:weftmake_Stream_Long.f k s0_0 s0_1=some (r1,r2,r3)) :
  Calls Tryz.prog 124 #[.pointer (some ⟨g,0,none⟩)] w fun e w'=>e = .returned (.agg #[.string r1,.string r2])∧IsS44 w0 w' g s0_0 r3∧Below w0.heap.size w0 w'∧KeepBut w w' g none:=by
 have hu61:=underlying61
 have HG:=aZ hG
 clear hG
 have HI0:=aZ hI
 have HK:=aZ (KeepBut.refl w g none)
 have HL:=aZ hB.size
 clear hI
 have HW0:=aZ hB.size
 have HB:=aZ hB
 clear hB
 have H:=h
 unfold weftmake_Stream_Long.f at H
 clear h
 obtain ⟨y345,hy345⟩:∃ y_:List Int,y_=(([49]:List Int)):=⟨_,rfl⟩
 replace H:((weftmake_Stream_Range.f s0_0 s0_1 1 60).bind fun bt348=>(weftmake_Stream_Long.l0 k y345 bt348.1 0 s0_0 bt348.2))=some (r1,r2,r3):=zy hy345 H
 have Ny345:=aZ hy345
 clear hy345
 obtain ⟨⟨t348,t349⟩,A2,H⟩:=zB H
 (try dsimp only at H)
 have H':=aZ H
 clear H
 go_enter func124,ntmps124
 go_wp2_with (first|(refine box_ev 2 #[.string ⟨#[]⟩,.string ⟨#[]⟩] 61 ?_;intro gb344 hg w3 hbox hb;replace HB:=sB hb;have BK344:=aZ hbox;have GW344:=sE hg;have GE344:=zW HW0 hg;replace HK:=sU hb;have NB0_344:=aZ ((by rw [hg];exact Nat.ne_of_lt (IsS44.lt (show IsS44 w0 _ g s0_0 s0_1 from zi HI0)):g≠gb344));have NB344_0:=aZ ((by rw [hg];exact Nat.ne_of_gt (IsS44.lt (show IsS44 w0 _ g s0_0 s0_1 from zi HI0)):gb344≠g));replace HI0:=aZ (IsS44.below (zi HI0) hb);clear hb hbox hg)|((with_reducible refine gate_dst (N:=5) rfl ?_);refine Kd.R_lit (Kd.int .u8) _ 5 ?hg (N:=5) ?hd (xs:=([49]:List Int)) (inner:=[.int .u8 49]) (ok:=fun _=>True) (okp:=fun _=>True) ?hr ?hp (fun _ hk=>hk) trivial (Below.refl _ _) (Nat.le_refl _) (by simp) ?_;(case hd=>rfl);(case hg=>rfl);(case hr=>first|(go_simp;done)|(go_simp;rfl));(case hp=>exact (Reps.one (show Kd.M (Kd.int .u8) _ _ _ 49 [.int .u8 49] from rfl) (Reps.none _ _)));intro v346 w4 ho5 hb hg_ hnew_;clear hg_ hnew_;(first|rw [← Ny345.out] at ho5|(simp only [Int.reduceToNat] at ho5;rw [← Ny345.out] at ho5));have HO347:=aZ (Kd.R_lower ho5 ks);replace HI0:=aZ (IsS44.below (zi HI0) hb);replace BK344:=sK BK344 hb;replace HK:=sU hb;replace HB:=sB hb;clear hb ho5)|(refine zg (some 7) func37 #[.pointer (some ⟨g,0,none⟩),.int .i64 1,.int .i64 60] ?_;(with_reducible refine (weftmake_Stream_Range.calls g s0_0 s0_1 1 60 t348 t349 w0 _ ?side1 ?side2 A2.out).mono ?_);(case side1=>exact zi HI0);(case side2=>exact bw);rintro e w6 ⟨rfl,hi,hb,hk⟩;refine ⟨_,rfl,?_⟩;replace BK344:=aZ (KeepBut.blk hk (g':=gb344) (o:=.cells #[.string ⟨#[]⟩,.string ⟨#[]⟩] 61 (0,0)) (zb BK344) NB344_0.out (by simp));replace HO347:=aZ (Kd.R_mono (Kd.R_keep (IsS44.apart (show IsS44 w0 _ g s0_0 s0_1 from zi HI0) (zR HO347) (by decide)) hk (fun _ h=>h.2)) (fun _ h=>h.1));replace HK:=sT hk;replace HB:=aZ (hb);replace HI0:=aZ (hi);clear hb hk hi))
 go_loopg [3,8] k (fun kq v3 v8 w'=>∃ (x3_1:List Int) (x8_1:Int),v8 = .int .i64 x8_1∧Aside0 (weftmake_Stream_Long.l0 kq x3_1 t348 x8_1 s0_0 t349=some (r1,r2,r3))∧Aside0 (kq≤k)∧Aside0 (Kd.R (Kd.int .u8) 5 w' w.heap.size (fun _=>True) v3 x3_1)∧Aside0 (w'.heap[gb344]? = some (.cells #[.string ⟨#[]⟩,.string ⟨#[]⟩] 61 (0,0)))∧Aside0 (IsS44 w0 w' g s0_0 t349)∧Aside0 (KeepBut w w' g none)∧Aside0 (Below w0.heap.size w0 w'))
 case atStart=>exact ⟨(y345),(0),zs,H',⟨Nat.le_refl _⟩,⟨zR HO347⟩,⟨zb BK344⟩,⟨zi HI0⟩,⟨kk⟩,⟨bw⟩⟩
 case round =>
  clear H'
  try clear c1
  try clear c3
  obtain ⟨x3_1,x8_1,rfl,HA,HK1,HO_3,BK344,HI0,HK,HB⟩:=hrel
  cases gk with
  | zero=>exact absurd HA.out (by simp [weftmake_Stream_Long.l0])
  | succ k1 =>
   have H:=HA.out
   clear HA
   simp only [weftmake_Stream_Long.l0] at H
   by_cases c7:x8_1<t348
   case neg=>
    rw [if_neg c7] at H
    have c7b0:=decide_eq_false c7
    clear c7
    by_cases c10:x3_1.length<140737488355328
    case neg=>
     rw [if_neg c10] at H
     cases H
    rw [if_pos c10] at H
    have LMc10:=aZ c10
    clear c10
    obtain ⟨y353,hy353⟩:∃ y_:List Int,y_=(x3_1++[49]):=⟨_,rfl⟩
    replace H:((weftmake_Stream_Flip.f s0_0 t349 2).bind fun bt357=>(if bt357.1=true then ((weftmake_Stream_Range.f s0_0 bt357.2 0 20).bind fun bt359=>(if 0≤bt359.1 then ((strconv_Itoa.f (shl .i64 1 bt359.1)).bind fun t361=>((weftmake_Stream_Flip.f s0_0 bt359.2 2).bind fun bt362=>(if bt362.1=true then (if 1+(strOfNums y353).size≤9223372036854775807 then (some ((⟨#[45]⟩:ByteArray)++(strOfNums y353),t361,bt362.2)) else (none)) else (some (strOfNums y353,t361,bt362.2))))) else (none))) else ((weftmake_Stream_Flip.f s0_0 bt357.2 2).bind fun bt364=>(if bt364.1=true then (if 1+(strOfNums y353).size≤9223372036854775807 then (some ((⟨#[45]⟩:ByteArray)++(strOfNums y353),(⟨#[49]⟩:ByteArray),bt364.2)) else (none)) else (some (strOfNums y353,(⟨#[49]⟩:ByteArray),bt364.2))))))=some (r1,r2,r3):=zy hy353 H
    have Ny353:=aZ hy353
    clear hy353
    obtain ⟨⟨t357,t358⟩,A11,H⟩:=zB H
    (try dsimp only at H)
    by_cases c12:t357=true
    case neg=>
     replace c12:=Bool.eq_false_iff.mpr c12
     subst c12
     have H1:((weftmake_Stream_Flip.f s0_0 t358 2).bind fun bt364=>(if bt364.1=true then (if 1+(strOfNums y353).size≤9223372036854775807 then (some ((⟨#[45]⟩:ByteArray)++(strOfNums y353),(⟨#[49]⟩:ByteArray),bt364.2)) else (none)) else (some (strOfNums y353,(⟨#[49]⟩:ByteArray),bt364.2))))=some (r1,r2,r3):=by rw [if_neg (show ¬ (false=true) by decide)] at H;exact H
     clear H
     have H:=H1
     clear H1
     obtain ⟨⟨t364,t365⟩,A48,H⟩:=zB H
     (try dsimp only at H)
     by_cases c49:t364=true
     case neg=>
      replace c49:=Bool.eq_false_iff.mpr c49
      subst c49
      have H1:(some (strOfNums y353,(⟨#[49]⟩:ByteArray),t365))=some (r1,r2,r3):=by rw [if_neg (show ¬ (false=true) by decide)] at H;exact H
      clear H
      have H:=H1
      clear H1
      simp only [Option.some.injEq,Prod.mk.injEq] at H
      obtain ⟨rfl,rfl,rfl⟩:=H
      go_wp2_with (first|((with_reducible refine gate_builtin (b:=.append) (xs:=#[.tmp 14,.tmp 15]) rfl ?_);at_builtin;refine Kd.R_append (Kd.int .u8) w.heap.size rfl (.tmp 14) (.tmp 15) 45 5 (.int .u8 0) 1 rfl underlying45 info5 rfl (by decide) (by omega) u3 x3_1 49 [.int .u8 49] (fun _=>True) (fun _=>False) rfl rfl ?aP (fun _ hk=>hk.elim) ?aF ?aO (Below.refl _ _) ?aS ?aL ?_;(case aP=>exact rfl);(case aF=>exact (fun _ _=>trivial));(case aO=>exact (zR HO_3));(case aS=>exact ks);(case aL=>have:=LMc10.out;omega);intro v354 w62 ho hb hg hat;rw [← Ny353.out] at ho;replace BK344:=aZ (blk_grown (g:=gb344) (o:=.cells #[.string ⟨#[]⟩,.string ⟨#[]⟩] 61 (0,0)) (zb BK344) hg (Kd.R_ne HO_3.out BK344.out (by decide)));replace HI0:=aZ (IsS44.grown (zi HI0) hg (IsS44.own_ne HI0.out HO_3.out (by decide)));replace HB:=aZ (below_weaken bw HL.out hb);replace HK:=aZ (KeepBut.trans kk (KeepBut.of_grown hg g) (Kd.R_base2 HO_3.out));have HO355:=aZ (ho);clear HO_3;clear ho hb hg hat;have hcv63:=own_string (P:=Tryz.prog) underlying45 underlying5 underlying9 (Kd.own_of_R HO355.out))|(refine box_ev 4 #[.string ⟨#[]⟩,.string ⟨#[]⟩] 61 ?_;intro gb356 hg w64 hbox hb;replace HO355:=yR HO355 hb;replace HB:=sB hb;have BK356:=aZ hbox;have GW356:=sE hg;have GE356:=zW HW0 hg;replace HK:=sU hb;have NB344_356:=sl hg BK344;have NB356_344:=sg hg BK344;replace BK344:=sK BK344 hb;have NB0_356:=aZ ((by rw [hg];exact Nat.ne_of_lt (IsS44.lt (show IsS44 w0 _ g s0_0 t349 from zi HI0)):g≠gb356));have NB356_0:=aZ ((by rw [hg];exact Nat.ne_of_gt (IsS44.lt (show IsS44 w0 _ g s0_0 t349 from zi HI0)):gb356≠g));replace HI0:=aZ (IsS44.below (zi HI0) hb);clear hb hbox hg;have hnb65:=NB356_344.out;have hnc65:=NB344_356.out;have hnb66:=NB356_0.out;have hnc66:=NB0_356.out;obtain ⟨hcz67_0,hfz67_0⟩:=zc BK356 0 (.string ⟨#[]⟩) rfl;obtain ⟨hcz67_1,hfz67_1⟩:=zc BK356 1 (.string ⟨#[]⟩) rfl)|(refine zg (some 21) func78 #[.pointer (some ⟨g,0,none⟩),.int .i64 2] ?_;(with_reducible refine (weftmake_Stream_Flip.calls g s0_0 t349 2 false t358 w0 _ ?side1 ?side2 A11.out).mono ?_);(case side1=>exact zi HI0);(case side2=>exact bw);rintro e w68 ⟨rfl,hi,hb,hk⟩;refine ⟨_,rfl,?_⟩;replace BK344:=aZ (KeepBut.blk hk (g':=gb344) (o:=.cells #[.string ⟨#[]⟩,.string ⟨#[]⟩] 61 (0,0)) (zq BK344) NB344_0.out (by simp));replace HO355:=aZ (Kd.R_mono (Kd.R_keep (IsS44.apart (show IsS44 w0 _ g s0_0 t349 from zi HI0) (by (with_reducible repeat (first|apply Kd.R_alloc|apply Kd.R_drewN|apply Kd.R_drew));exact (Kd.R_mono (Kd.R_far (p:=⟨gb356,1,none⟩) (Kd.R_far (p:=⟨gb356,0,none⟩) (Kd.R_types HO355.out BK356.out (by decide)) (fun _ hk=>hk.2) (.string (strOfNums y353))) (fun _ hk=>hk.2) (.string (⟨#[49]⟩:ByteArray))) (fun _ h_=>h_.1))) (by decide)) hk (fun _ h=>h.2)) (fun _ h=>h.1));replace BK356:=aZ (KeepBut.blk hk (g':=gb356) (o:=.cells #[.string (strOfNums y353),.string (⟨#[49]⟩:ByteArray)] 61 (0,0)) (zp BK356) NB356_0.out (by simp));replace HK:=sT hk;replace HB:=aZ (hb);replace HI0:=aZ (hi);clear hb hk hi)|(refine zg (some 28) func78 #[.pointer (some ⟨g,0,none⟩),.int .i64 2] ?_;(with_reducible refine (weftmake_Stream_Flip.calls g s0_0 t358 2 false t365 w0 _ ?side1 ?side2 A48.out).mono ?_);(case side1=>exact zi HI0);(case side2=>exact bw);rintro e w69 ⟨rfl,hi,hb,hk⟩;refine ⟨_,rfl,?_⟩;replace BK344:=aZ (KeepBut.blk hk (g':=gb344) (o:=.cells #[.string ⟨#[]⟩,.string ⟨#[]⟩] 61 (0,0)) (zb BK344) NB344_0.out (by simp));replace HO355:=aZ (Kd.R_mono (Kd.R_keep (IsS44.apart (show IsS44 w0 _ g s0_0 t358 from zi HI0) (zR HO355) (by decide)) hk (fun _ h=>h.2)) (fun _ h=>h.1));replace BK356:=aZ (KeepBut.blk hk (g':=gb356) (o:=.cells #[.string (strOfNums y353),.string (⟨#[49]⟩:ByteArray)] 61 (0,0)) (zb BK356) NB356_0.out (by simp));replace HK:=sT hk;replace HB:=aZ (hb);replace HI0:=aZ (hi);clear hb hk hi;obtain ⟨hcz70_0,hfz70_0⟩:=zc BK356 0 (.string (strOfNums y353)) rfl;obtain ⟨hcz70_1,hfz70_1⟩:=zc BK356 1 (.string (⟨#[49]⟩:ByteArray)) rfl;have hnb71:=NB344_0.out;have hnc71:=NB0_344.out;obtain ⟨hcz72_0,hfz72_0⟩:=zc BK344 0 (.string ⟨#[]⟩) rfl;obtain ⟨hcz72_1,hfz72_1⟩:=zc BK344 1 (.string ⟨#[]⟩) rfl))
      refine bodyPost_ret (results_cell_row rfl _ _ gb344 61 #[.string (strOfNums y353),.string (⟨#[49]⟩:ByteArray)] (0,0) _ rfl (zp BK344) underlying61 rfl (by kernel_rfl)) rfl ?_
      exact ⟨ze,zi HI0,bw,kk⟩
     subst c49
     have H1:(if 1+(strOfNums y353).size≤9223372036854775807 then (some ((⟨#[45]⟩:ByteArray)++(strOfNums y353),(⟨#[49]⟩:ByteArray),t365)) else (none))=some (r1,r2,r3):=by rw [if_pos rfl] at H;exact H
     clear H
     have H:=H1
     clear H1
     by_cases c50:1+(strOfNums y353).size≤9223372036854775807
     case neg=>
      rw [if_neg c50] at H
      cases H
     rw [if_pos c50] at H
     have c50b0:=eq_true c50
     have c50b1:=decide_eq_true c50
     try have c50b2:=eq_false (Nat.not_lt.2 c50)
     simp only [Option.some.injEq,Prod.mk.injEq] at H
     obtain ⟨rfl,rfl,rfl⟩:=H
     go_wp2_with (first|((with_reducible refine gate_builtin (b:=.append) (xs:=#[.tmp 14,.tmp 15]) rfl ?_);at_builtin;refine Kd.R_append (Kd.int .u8) w.heap.size rfl (.tmp 14) (.tmp 15) 45 5 (.int .u8 0) 1 rfl underlying45 info5 rfl (by decide) (by omega) u3 x3_1 49 [.int .u8 49] (fun _=>True) (fun _=>False) rfl rfl ?aP (fun _ hk=>hk.elim) ?aF ?aO (Below.refl _ _) ?aS ?aL ?_;(case aP=>exact rfl);(case aF=>exact (fun _ _=>trivial));(case aO=>exact (zR HO_3));(case aS=>exact ks);(case aL=>have:=LMc10.out;omega);intro v354 w51 ho hb hg hat;rw [← Ny353.out] at ho;replace BK344:=aZ (blk_grown (g:=gb344) (o:=.cells #[.string ⟨#[]⟩,.string ⟨#[]⟩] 61 (0,0)) (zb BK344) hg (Kd.R_ne HO_3.out BK344.out (by decide)));replace HI0:=aZ (IsS44.grown (zi HI0) hg (IsS44.own_ne HI0.out HO_3.out (by decide)));replace HB:=aZ (below_weaken bw HL.out hb);replace HK:=aZ (KeepBut.trans kk (KeepBut.of_grown hg g) (Kd.R_base2 HO_3.out));have HO355:=aZ (ho);clear HO_3;clear ho hb hg hat;have hcv52:=own_string (P:=Tryz.prog) underlying45 underlying5 underlying9 (Kd.own_of_R HO355.out))|(refine box_ev 4 #[.string ⟨#[]⟩,.string ⟨#[]⟩] 61 ?_;intro gb356 hg w53 hbox hb;replace HO355:=yR HO355 hb;replace HB:=sB hb;have BK356:=aZ hbox;have GW356:=sE hg;have GE356:=zW HW0 hg;replace HK:=sU hb;have NB344_356:=sl hg BK344;have NB356_344:=sg hg BK344;replace BK344:=sK BK344 hb;have NB0_356:=aZ ((by rw [hg];exact Nat.ne_of_lt (IsS44.lt (show IsS44 w0 _ g s0_0 t349 from zi HI0)):g≠gb356));have NB356_0:=aZ ((by rw [hg];exact Nat.ne_of_gt (IsS44.lt (show IsS44 w0 _ g s0_0 t349 from zi HI0)):gb356≠g));replace HI0:=aZ (IsS44.below (zi HI0) hb);clear hb hbox hg;have hnb54:=NB356_344.out;have hnc54:=NB344_356.out;have hnb55:=NB356_0.out;have hnc55:=NB0_356.out;obtain ⟨hcz56_0,hfz56_0⟩:=zc BK356 0 (.string ⟨#[]⟩) rfl;obtain ⟨hcz56_1,hfz56_1⟩:=zc BK356 1 (.string ⟨#[]⟩) rfl)|(refine zg (some 21) func78 #[.pointer (some ⟨g,0,none⟩),.int .i64 2] ?_;(with_reducible refine (weftmake_Stream_Flip.calls g s0_0 t349 2 false t358 w0 _ ?side1 ?side2 A11.out).mono ?_);(case side1=>exact zi HI0);(case side2=>exact bw);rintro e w57 ⟨rfl,hi,hb,hk⟩;refine ⟨_,rfl,?_⟩;replace BK344:=aZ (KeepBut.blk hk (g':=gb344) (o:=.cells #[.string ⟨#[]⟩,.string ⟨#[]⟩] 61 (0,0)) (zq BK344) NB344_0.out (by simp));replace HO355:=aZ (Kd.R_mono (Kd.R_keep (IsS44.apart (show IsS44 w0 _ g s0_0 t349 from zi HI0) (by (with_reducible repeat (first|apply Kd.R_alloc|apply Kd.R_drewN|apply Kd.R_drew));exact (Kd.R_mono (Kd.R_far (p:=⟨gb356,1,none⟩) (Kd.R_far (p:=⟨gb356,0,none⟩) (Kd.R_types HO355.out BK356.out (by decide)) (fun _ hk=>hk.2) (.string (strOfNums y353))) (fun _ hk=>hk.2) (.string (⟨#[49]⟩:ByteArray))) (fun _ h_=>h_.1))) (by decide)) hk (fun _ h=>h.2)) (fun _ h=>h.1));replace BK356:=aZ (KeepBut.blk hk (g':=gb356) (o:=.cells #[.string (strOfNums y353),.string (⟨#[49]⟩:ByteArray)] 61 (0,0)) (zp BK356) NB356_0.out (by simp));replace HK:=sT hk;replace HB:=aZ (hb);replace HI0:=aZ (hi);clear hb hk hi)|(refine zg (some 28) func78 #[.pointer (some ⟨g,0,none⟩),.int .i64 2] ?_;(with_reducible refine (weftmake_Stream_Flip.calls g s0_0 t358 2 true t365 w0 _ ?side1 ?side2 A48.out).mono ?_);(case side1=>exact zi HI0);(case side2=>exact bw);rintro e w58 ⟨rfl,hi,hb,hk⟩;refine ⟨_,rfl,?_⟩;replace BK344:=aZ (KeepBut.blk hk (g':=gb344) (o:=.cells #[.string ⟨#[]⟩,.string ⟨#[]⟩] 61 (0,0)) (zb BK344) NB344_0.out (by simp));replace HO355:=aZ (Kd.R_mono (Kd.R_keep (IsS44.apart (show IsS44 w0 _ g s0_0 t358 from zi HI0) (zR HO355) (by decide)) hk (fun _ h=>h.2)) (fun _ h=>h.1));replace BK356:=aZ (KeepBut.blk hk (g':=gb356) (o:=.cells #[.string (strOfNums y353),.string (⟨#[49]⟩:ByteArray)] 61 (0,0)) (zb BK356) NB356_0.out (by simp));replace HK:=sT hk;replace HB:=aZ (hb);replace HI0:=aZ (hi);clear hb hk hi;obtain ⟨hcz59_0,hfz59_0⟩:=zc BK356 0 (.string (strOfNums y353)) rfl;obtain ⟨hcz59_1,hfz59_1⟩:=zc BK356 1 (.string (⟨#[49]⟩:ByteArray)) rfl;have hnb60:=NB344_0.out;have hnc60:=NB0_344.out;obtain ⟨hcz61_0,hfz61_0⟩:=zc BK344 0 (.string ⟨#[]⟩) rfl;obtain ⟨hcz61_1,hfz61_1⟩:=zc BK344 1 (.string ⟨#[]⟩) rfl))
     refine bodyPost_ret (results_cell_row rfl _ _ gb344 61 #[.string ((⟨#[45]⟩:ByteArray)++(strOfNums y353)),.string (⟨#[49]⟩:ByteArray)] (0,0) _ rfl (zq BK344) underlying61 rfl (by kernel_rfl)) rfl ?_
     exact ⟨ze,zi HI0,bw,kk⟩
    subst c12
    have H1:((weftmake_Stream_Range.f s0_0 t358 0 20).bind fun bt359=>(if 0≤bt359.1 then ((strconv_Itoa.f (shl .i64 1 bt359.1)).bind fun t361=>((weftmake_Stream_Flip.f s0_0 bt359.2 2).bind fun bt362=>(if bt362.1=true then (if 1+(strOfNums y353).size≤9223372036854775807 then (some ((⟨#[45]⟩:ByteArray)++(strOfNums y353),t361,bt362.2)) else (none)) else (some (strOfNums y353,t361,bt362.2))))) else (none)))=some (r1,r2,r3):=by rw [if_pos rfl] at H;exact H
    clear H
    have H:=H1
    clear H1
    obtain ⟨⟨t359,t360⟩,A13,H⟩:=zB H
    (try dsimp only at H)
    by_cases c14:0≤t359
    case neg=>
     rw [if_neg c14] at H
     cases H
    rw [if_pos c14] at H
    have c14b0:=eq_true c14
    have c14b1:=decide_eq_true c14
    clear c14
    obtain ⟨ji15,hji15⟩:∃ j_:Int,(shl .i64 1 t359)=j_:=⟨_,rfl⟩
    (first|rw [hji15] at H|simp only [hji15] at H)
    (try rw [hji15] at A11)
    (try rw [hji15] at A13)
    have hji15_:(IntKind.i64.wrap (1*2^min t359.toNat 64))=ji15:=hji15
    have hji15z:t359≤64→(IntKind.i64.wrap (1*2^t359.toNat))=ji15:=shl_small hji15
    have hji15u:(IntKind.i64.wrap (2^min t359.toNat 64))=ji15:=by have h_:=hji15_;rw [Int.one_mul] at h_;exact h_
    have hji15v:t359≤64→(IntKind.i64.wrap (2^t359.toNat))=ji15:=fun hle_=>by have h_:=hji15z hle_;rw [Int.one_mul] at h_;exact h_
    have hji15yu:(wrap64 (2^min t359.toNat 64))=ji15:=(i64_w _).symm.trans hji15u
    have hji15xu:t359≤64→(wrap64 (2^t359.toNat))=ji15:=fun h_=>(i64_w _).symm.trans (hji15v h_)
    have hji15y:(wrap64 (1*2^min t359.toNat 64))=ji15:=(i64_w _).symm.trans hji15_
    have hji15x:t359≤64→(wrap64 (1*2^t359.toNat))=ji15:=fun h_=>(i64_w _).symm.trans (hji15z h_)
    obtain ⟨t361,A16,H⟩:=zB H
    obtain ⟨⟨t362,t363⟩,A17,H⟩:=zB H
    (try dsimp only at H)
    by_cases c18:t362=true
    case neg=>
     replace c18:=Bool.eq_false_iff.mpr c18
     subst c18
     have H1:(some (strOfNums y353,t361,t363))=some (r1,r2,r3):=by rw [if_neg (show ¬ (false=true) by decide)] at H;exact H
     clear H
     have H:=H1
     clear H1
     simp only [Option.some.injEq,Prod.mk.injEq] at H
     obtain ⟨rfl,rfl,rfl⟩:=H
     go_wp2_with (first|((with_reducible refine gate_builtin (b:=.append) (xs:=#[.tmp 14,.tmp 15]) rfl ?_);at_builtin;refine Kd.R_append (Kd.int .u8) w.heap.size rfl (.tmp 14) (.tmp 15) 45 5 (.int .u8 0) 1 rfl underlying45 info5 rfl (by decide) (by omega) u3 x3_1 49 [.int .u8 49] (fun _=>True) (fun _=>False) rfl rfl ?aP (fun _ hk=>hk.elim) ?aF ?aO (Below.refl _ _) ?aS ?aL ?_;(case aP=>exact rfl);(case aF=>exact (fun _ _=>trivial));(case aO=>exact (zR HO_3));(case aS=>exact ks);(case aL=>have:=LMc10.out;omega);intro v354 w34 ho hb hg hat;rw [← Ny353.out] at ho;replace BK344:=aZ (blk_grown (g:=gb344) (o:=.cells #[.string ⟨#[]⟩,.string ⟨#[]⟩] 61 (0,0)) (zb BK344) hg (Kd.R_ne HO_3.out BK344.out (by decide)));replace HI0:=aZ (IsS44.grown (zi HI0) hg (IsS44.own_ne HI0.out HO_3.out (by decide)));replace HB:=aZ (below_weaken bw HL.out hb);replace HK:=aZ (KeepBut.trans kk (KeepBut.of_grown hg g) (Kd.R_base2 HO_3.out));have HO355:=aZ (ho);clear HO_3;clear ho hb hg hat;have hcv35:=own_string (P:=Tryz.prog) underlying45 underlying5 underlying9 (Kd.own_of_R HO355.out))|(refine box_ev 4 #[.string ⟨#[]⟩,.string ⟨#[]⟩] 61 ?_;intro gb356 hg w36 hbox hb;replace HO355:=yR HO355 hb;replace HB:=sB hb;have BK356:=aZ hbox;have GW356:=sE hg;have GE356:=zW HW0 hg;replace HK:=sU hb;have NB344_356:=sl hg BK344;have NB356_344:=sg hg BK344;replace BK344:=sK BK344 hb;have NB0_356:=aZ ((by rw [hg];exact Nat.ne_of_lt (IsS44.lt (show IsS44 w0 _ g s0_0 t349 from zi HI0)):g≠gb356));have NB356_0:=aZ ((by rw [hg];exact Nat.ne_of_gt (IsS44.lt (show IsS44 w0 _ g s0_0 t349 from zi HI0)):gb356≠g));replace HI0:=aZ (IsS44.below (zi HI0) hb);clear hb hbox hg;have hnb37:=NB356_344.out;have hnc37:=NB344_356.out;have hnb38:=NB356_0.out;have hnc38:=NB0_356.out;obtain ⟨hcz39_0,hfz39_0⟩:=zc BK356 0 (.string ⟨#[]⟩) rfl;obtain ⟨hcz39_1,hfz39_1⟩:=zc BK356 1 (.string ⟨#[]⟩) rfl)|(refine zg (some 21) func78 #[.pointer (some ⟨g,0,none⟩),.int .i64 2] ?_;(with_reducible refine (weftmake_Stream_Flip.calls g s0_0 t349 2 true t358 w0 _ ?side1 ?side2 A11.out).mono ?_);(case side1=>exact zi HI0);(case side2=>exact bw);rintro e w40 ⟨rfl,hi,hb,hk⟩;refine ⟨_,rfl,?_⟩;replace BK344:=aZ (KeepBut.blk hk (g':=gb344) (o:=.cells #[.string ⟨#[]⟩,.string ⟨#[]⟩] 61 (0,0)) (zq BK344) NB344_0.out (by simp));replace HO355:=aZ (Kd.R_mono (Kd.R_keep (IsS44.apart (show IsS44 w0 _ g s0_0 t349 from zi HI0) (by (with_reducible repeat (first|apply Kd.R_alloc|apply Kd.R_drewN|apply Kd.R_drew));exact (Kd.R_mono (Kd.R_far (p:=⟨gb356,1,none⟩) (Kd.R_far (p:=⟨gb356,0,none⟩) (Kd.R_types HO355.out BK356.out (by decide)) (fun _ hk=>hk.2) (.string (strOfNums y353))) (fun _ hk=>hk.2) (.string (⟨#[49]⟩:ByteArray))) (fun _ h_=>h_.1))) (by decide)) hk (fun _ h=>h.2)) (fun _ h=>h.1));replace BK356:=aZ (KeepBut.blk hk (g':=gb356) (o:=.cells #[.string (strOfNums y353),.string (⟨#[49]⟩:ByteArray)] 61 (0,0)) (zp BK356) NB356_0.out (by simp));replace HK:=sT hk;replace HB:=aZ (hb);replace HI0:=aZ (hi);clear hb hk hi)|(refine zg (some 23) func37 #[.pointer (some ⟨g,0,none⟩),.int .i64 0,.int .i64 20] ?_;(with_reducible refine (weftmake_Stream_Range.calls g s0_0 t358 0 20 t359 t360 w0 _ ?side1 ?side2 A13.out).mono ?_);(case side1=>exact zi HI0);(case side2=>exact bw);rintro e w41 ⟨rfl,hi,hb,hk⟩;refine ⟨_,rfl,?_⟩;replace BK344:=aZ (KeepBut.blk hk (g':=gb344) (o:=.cells #[.string ⟨#[]⟩,.string ⟨#[]⟩] 61 (0,0)) (zb BK344) NB344_0.out (by simp));replace HO355:=aZ (Kd.R_mono (Kd.R_keep (IsS44.apart (show IsS44 w0 _ g s0_0 t358 from zi HI0) (zR HO355) (by decide)) hk (fun _ h=>h.2)) (fun _ h=>h.1));replace BK356:=aZ (KeepBut.blk hk (g':=gb356) (o:=.cells #[.string (strOfNums y353),.string (⟨#[49]⟩:ByteArray)] 61 (0,0)) (zb BK356) NB356_0.out (by simp));replace HK:=sT hk;replace HB:=aZ (hb);replace HI0:=aZ (hi);clear hb hk hi)|((with_reducible refine gate_callee (f:=138) rfl ?_);refine goesL_ (some 25) rfl rfl func138 (by kernel_rfl) rfl #[.int .i64 ji15] rfl (by (try simp only [List.map_toArray,List.map_cons,List.map_nil]);first|done|(simp only [hji15];rfl)|rfl|(simp only [List.length_drop,List.length_take];rfl)) ?_;(with_reducible refine (strconv_Itoa.calls ji15 t361 _ ?side1 A16.out).mono ?_);(case side1=>exact Tryz.Gl.below HG.out bw);rintro e w42 ⟨rfl,hb⟩;refine ⟨_,rfl,?_⟩;replace HO355:=yR HO355 hb;replace BK344:=sK BK344 hb;replace HI0:=aZ (IsS44.below (zi HI0) hb);replace BK356:=sK BK356 hb;replace HK:=sU hb;replace HB:=sB hb;clear hb;obtain ⟨hcz43_0,hfz43_0⟩:=zc BK356 0 (.string (strOfNums y353)) rfl;obtain ⟨hcz43_1,hfz43_1⟩:=zc BK356 1 (.string (⟨#[49]⟩:ByteArray)) rfl)|(refine zg (some 28) func78 #[.pointer (some ⟨g,0,none⟩),.int .i64 2] ?_;(with_reducible refine (weftmake_Stream_Flip.calls g s0_0 t360 2 false t363 w0 _ ?side1 ?side2 A17.out).mono ?_);(case side1=>exact zi HI0);(case side2=>exact bw);rintro e w44 ⟨rfl,hi,hb,hk⟩;refine ⟨_,rfl,?_⟩;replace BK344:=aZ (KeepBut.blk hk (g':=gb344) (o:=.cells #[.string ⟨#[]⟩,.string ⟨#[]⟩] 61 (0,0)) (zq BK344) NB344_0.out (by simp));replace HO355:=aZ (Kd.R_mono (Kd.R_keep (IsS44.apart (show IsS44 w0 _ g s0_0 t360 from zi HI0) (by (with_reducible repeat (first|apply Kd.R_alloc|apply Kd.R_drewN|apply Kd.R_drew));exact (Kd.R_mono (Kd.R_far (p:=⟨gb356,1,none⟩) (Kd.R_types HO355.out BK356.out (by decide)) (fun _ hk=>hk.2) (.string t361)) (fun _ h_=>h_.1))) (by decide)) hk (fun _ h=>h.2)) (fun _ h=>h.1));replace BK356:=aZ (KeepBut.blk hk (g':=gb356) (o:=.cells #[.string (strOfNums y353),.string t361] 61 (0,0)) (zp BK356) NB356_0.out (by simp));replace HK:=sT hk;replace HB:=aZ (hb);replace HI0:=aZ (hi);clear hb hk hi;obtain ⟨hcz45_0,hfz45_0⟩:=zc BK356 0 (.string (strOfNums y353)) rfl;obtain ⟨hcz45_1,hfz45_1⟩:=zc BK356 1 (.string t361) rfl;have hnb46:=NB344_0.out;have hnc46:=NB0_344.out;obtain ⟨hcz47_0,hfz47_0⟩:=zc BK344 0 (.string ⟨#[]⟩) rfl;obtain ⟨hcz47_1,hfz47_1⟩:=zc BK344 1 (.string ⟨#[]⟩) rfl))
     refine bodyPost_ret (results_cell_row rfl _ _ gb344 61 #[.string (strOfNums y353),.string t361] (0,0) _ rfl (zp BK344) underlying61 rfl (by kernel_rfl)) rfl ?_
     exact ⟨by first|rfl|(simp [errW_none,errW_some] <;> rfl)|(simp only [← hji15];first|rfl|(simp [errW_none,errW_some] <;> rfl))|(simp [*,errW_none,errW_some] <;> rfl),zi HI0,bw,kk⟩
    subst c18
    have H1:(if 1+(strOfNums y353).size≤9223372036854775807 then (some ((⟨#[45]⟩:ByteArray)++(strOfNums y353),t361,t363)) else (none))=some (r1,r2,r3):=by rw [if_pos rfl] at H;exact H
    clear H
    have H:=H1
    clear H1
    by_cases c19:1+(strOfNums y353).size≤9223372036854775807
    case neg=>
     rw [if_neg c19] at H
     cases H
    rw [if_pos c19] at H
    have c19b0:=eq_true c19
    have c19b1:=decide_eq_true c19
    try have c19b2:=eq_false (Nat.not_lt.2 c19)
    simp only [Option.some.injEq,Prod.mk.injEq] at H
    obtain ⟨rfl,rfl,rfl⟩:=H
    go_wp2_with (first|((with_reducible refine gate_builtin (b:=.append) (xs:=#[.tmp 14,.tmp 15]) rfl ?_);at_builtin;refine Kd.R_append (Kd.int .u8) w.heap.size rfl (.tmp 14) (.tmp 15) 45 5 (.int .u8 0) 1 rfl underlying45 info5 rfl (by decide) (by omega) u3 x3_1 49 [.int .u8 49] (fun _=>True) (fun _=>False) rfl rfl ?aP (fun _ hk=>hk.elim) ?aF ?aO (Below.refl _ _) ?aS ?aL ?_;(case aP=>exact rfl);(case aF=>exact (fun _ _=>trivial));(case aO=>exact (zR HO_3));(case aS=>exact ks);(case aL=>have:=LMc10.out;omega);intro v354 w20 ho hb hg hat;rw [← Ny353.out] at ho;replace BK344:=aZ (blk_grown (g:=gb344) (o:=.cells #[.string ⟨#[]⟩,.string ⟨#[]⟩] 61 (0,0)) (zb BK344) hg (Kd.R_ne HO_3.out BK344.out (by decide)));replace HI0:=aZ (IsS44.grown (zi HI0) hg (IsS44.own_ne HI0.out HO_3.out (by decide)));replace HB:=aZ (below_weaken bw HL.out hb);replace HK:=aZ (KeepBut.trans kk (KeepBut.of_grown hg g) (Kd.R_base2 HO_3.out));have HO355:=aZ (ho);clear HO_3;clear ho hb hg hat;have hcv21:=own_string (P:=Tryz.prog) underlying45 underlying5 underlying9 (Kd.own_of_R HO355.out))|(refine box_ev 4 #[.string ⟨#[]⟩,.string ⟨#[]⟩] 61 ?_;intro gb356 hg w22 hbox hb;replace HO355:=yR HO355 hb;replace HB:=sB hb;have BK356:=aZ hbox;have GW356:=sE hg;have GE356:=zW HW0 hg;replace HK:=sU hb;have NB344_356:=sl hg BK344;have NB356_344:=sg hg BK344;replace BK344:=sK BK344 hb;have NB0_356:=aZ ((by rw [hg];exact Nat.ne_of_lt (IsS44.lt (show IsS44 w0 _ g s0_0 t349 from zi HI0)):g≠gb356));have NB356_0:=aZ ((by rw [hg];exact Nat.ne_of_gt (IsS44.lt (show IsS44 w0 _ g s0_0 t349 from zi HI0)):gb356≠g));replace HI0:=aZ (IsS44.below (zi HI0) hb);clear hb hbox hg;have hnb23:=NB356_344.out;have hnc23:=NB344_356.out;have hnb24:=NB356_0.out;have hnc24:=NB0_356.out;obtain ⟨hcz25_0,hfz25_0⟩:=zc BK356 0 (.string ⟨#[]⟩) rfl;obtain ⟨hcz25_1,hfz25_1⟩:=zc BK356 1 (.string ⟨#[]⟩) rfl)|(refine zg (some 21) func78 #[.pointer (some ⟨g,0,none⟩),.int .i64 2] ?_;(with_reducible refine (weftmake_Stream_Flip.calls g s0_0 t349 2 true t358 w0 _ ?side1 ?side2 A11.out).mono ?_);(case side1=>exact zi HI0);(case side2=>exact bw);rintro e w26 ⟨rfl,hi,hb,hk⟩;refine ⟨_,rfl,?_⟩;replace BK344:=aZ (KeepBut.blk hk (g':=gb344) (o:=.cells #[.string ⟨#[]⟩,.string ⟨#[]⟩] 61 (0,0)) (zq BK344) NB344_0.out (by simp));replace HO355:=aZ (Kd.R_mono (Kd.R_keep (IsS44.apart (show IsS44 w0 _ g s0_0 t349 from zi HI0) (by (with_reducible repeat (first|apply Kd.R_alloc|apply Kd.R_drewN|apply Kd.R_drew));exact (Kd.R_mono (Kd.R_far (p:=⟨gb356,1,none⟩) (Kd.R_far (p:=⟨gb356,0,none⟩) (Kd.R_types HO355.out BK356.out (by decide)) (fun _ hk=>hk.2) (.string (strOfNums y353))) (fun _ hk=>hk.2) (.string (⟨#[49]⟩:ByteArray))) (fun _ h_=>h_.1))) (by decide)) hk (fun _ h=>h.2)) (fun _ h=>h.1));replace BK356:=aZ (KeepBut.blk hk (g':=gb356) (o:=.cells #[.string (strOfNums y353),.string (⟨#[49]⟩:ByteArray)] 61 (0,0)) (zp BK356) NB356_0.out (by simp));replace HK:=sT hk;replace HB:=aZ (hb);replace HI0:=aZ (hi);clear hb hk hi)|(refine zg (some 23) func37 #[.pointer (some ⟨g,0,none⟩),.int .i64 0,.int .i64 20] ?_;(with_reducible refine (weftmake_Stream_Range.calls g s0_0 t358 0 20 t359 t360 w0 _ ?side1 ?side2 A13.out).mono ?_);(case side1=>exact zi HI0);(case side2=>exact bw);rintro e w27 ⟨rfl,hi,hb,hk⟩;refine ⟨_,rfl,?_⟩;replace BK344:=aZ (KeepBut.blk hk (g':=gb344) (o:=.cells #[.string ⟨#[]⟩,.string ⟨#[]⟩] 61 (0,0)) (zb BK344) NB344_0.out (by simp));replace HO355:=aZ (Kd.R_mono (Kd.R_keep (IsS44.apart (show IsS44 w0 _ g s0_0 t358 from zi HI0) (zR HO355) (by decide)) hk (fun _ h=>h.2)) (fun _ h=>h.1));replace BK356:=aZ (KeepBut.blk hk (g':=gb356) (o:=.cells #[.string (strOfNums y353),.string (⟨#[49]⟩:ByteArray)] 61 (0,0)) (zb BK356) NB356_0.out (by simp));replace HK:=sT hk;replace HB:=aZ (hb);replace HI0:=aZ (hi);clear hb hk hi)|((with_reducible refine gate_callee (f:=138) rfl ?_);refine goesL_ (some 25) rfl rfl func138 (by kernel_rfl) rfl #[.int .i64 ji15] rfl (by (try simp only [List.map_toArray,List.map_cons,List.map_nil]);first|done|(simp only [hji15];rfl)|rfl|(simp only [List.length_drop,List.length_take];rfl)) ?_;(with_reducible refine (strconv_Itoa.calls ji15 t361 _ ?side1 A16.out).mono ?_);(case side1=>exact Tryz.Gl.below HG.out bw);rintro e w28 ⟨rfl,hb⟩;refine ⟨_,rfl,?_⟩;replace HO355:=yR HO355 hb;replace BK344:=sK BK344 hb;replace HI0:=aZ (IsS44.below (zi HI0) hb);replace BK356:=sK BK356 hb;replace HK:=sU hb;replace HB:=sB hb;clear hb;obtain ⟨hcz29_0,hfz29_0⟩:=zc BK356 0 (.string (strOfNums y353)) rfl;obtain ⟨hcz29_1,hfz29_1⟩:=zc BK356 1 (.string (⟨#[49]⟩:ByteArray)) rfl)|(refine zg (some 28) func78 #[.pointer (some ⟨g,0,none⟩),.int .i64 2] ?_;(with_reducible refine (weftmake_Stream_Flip.calls g s0_0 t360 2 true t363 w0 _ ?side1 ?side2 A17.out).mono ?_);(case side1=>exact zi HI0);(case side2=>exact bw);rintro e w30 ⟨rfl,hi,hb,hk⟩;refine ⟨_,rfl,?_⟩;replace BK344:=aZ (KeepBut.blk hk (g':=gb344) (o:=.cells #[.string ⟨#[]⟩,.string ⟨#[]⟩] 61 (0,0)) (zq BK344) NB344_0.out (by simp));replace HO355:=aZ (Kd.R_mono (Kd.R_keep (IsS44.apart (show IsS44 w0 _ g s0_0 t360 from zi HI0) (by (with_reducible repeat (first|apply Kd.R_alloc|apply Kd.R_drewN|apply Kd.R_drew));exact (Kd.R_mono (Kd.R_far (p:=⟨gb356,1,none⟩) (Kd.R_types HO355.out BK356.out (by decide)) (fun _ hk=>hk.2) (.string t361)) (fun _ h_=>h_.1))) (by decide)) hk (fun _ h=>h.2)) (fun _ h=>h.1));replace BK356:=aZ (KeepBut.blk hk (g':=gb356) (o:=.cells #[.string (strOfNums y353),.string t361] 61 (0,0)) (zp BK356) NB356_0.out (by simp));replace HK:=sT hk;replace HB:=aZ (hb);replace HI0:=aZ (hi);clear hb hk hi;obtain ⟨hcz31_0,hfz31_0⟩:=zc BK356 0 (.string (strOfNums y353)) rfl;obtain ⟨hcz31_1,hfz31_1⟩:=zc BK356 1 (.string t361) rfl;have hnb32:=NB344_0.out;have hnc32:=NB0_344.out;obtain ⟨hcz33_0,hfz33_0⟩:=zc BK344 0 (.string ⟨#[]⟩) rfl;obtain ⟨hcz33_1,hfz33_1⟩:=zc BK344 1 (.string ⟨#[]⟩) rfl))
    refine bodyPost_ret (results_cell_row rfl _ _ gb344 61 #[.string ((⟨#[45]⟩:ByteArray)++(strOfNums y353)),.string t361] (0,0) _ rfl (zq BK344) underlying61 rfl (by kernel_rfl)) rfl ?_
    exact ⟨by first|rfl|(simp [errW_none,errW_some] <;> rfl)|(simp only [← hji15];first|rfl|(simp [errW_none,errW_some] <;> rfl))|(simp [*,errW_none,errW_some] <;> rfl),zi HI0,bw,kk⟩
   rw [if_pos c7] at H
   have c7b0:=decide_eq_true c7
   clear c7
   by_cases c8:x3_1.length<140737488355328
   case neg=>
    rw [if_neg c8] at H
    cases H
   rw [if_pos c8] at H
   have LMc8:=aZ c8
   clear c8
   obtain ⟨y350,hy350⟩:∃ y_:List Int,y_=(x3_1++[48]):=⟨_,rfl⟩
   replace H:(weftmake_Stream_Long.l0 k1 y350 t348 (wrap64 (x8_1+1)) s0_0 t349)=some (r1,r2,r3):=zy hy350 H
   have Ny350:=aZ hy350
   clear hy350
   have H':=aZ H
   clear H
   go_wp2_with (first|((with_reducible refine gate_builtin (b:=.append) (xs:=#[.tmp 10,.tmp 11]) rfl ?_);at_builtin;refine Kd.R_append (Kd.int .u8) w.heap.size rfl (.tmp 10) (.tmp 11) 45 5 (.int .u8 0) 1 rfl underlying45 info5 rfl (by decide) (by omega) u3 x3_1 48 [.int .u8 48] (fun _=>True) (fun _=>False) rfl rfl ?aP (fun _ hk=>hk.elim) ?aF ?aO (Below.refl _ _) ?aS ?aL ?_;(case aP=>exact rfl);(case aF=>exact (fun _ _=>trivial));(case aO=>exact (zR HO_3));(case aS=>exact ks);(case aL=>have:=LMc8.out;omega);intro v351 w9 ho hb hg hat;rw [← Ny350.out] at ho;replace BK344:=aZ (blk_grown (g:=gb344) (o:=.cells #[.string ⟨#[]⟩,.string ⟨#[]⟩] 61 (0,0)) (zb BK344) hg (Kd.R_ne HO_3.out BK344.out (by decide)));replace HI0:=aZ (IsS44.grown (zi HI0) hg (IsS44.own_ne HI0.out HO_3.out (by decide)));replace HB:=aZ (below_weaken bw HL.out hb);replace HK:=aZ (KeepBut.trans kk (KeepBut.of_grown hg g) (Kd.R_base2 HO_3.out));have HO352:=aZ (ho);clear HO_3;clear ho hb hg hat))
   go_roundg k1
   case measure=>have:=HK1.out;omega
   case rel=>exact ⟨(y350),(wrap64 (x8_1+1)),zs,H',⟨by have:=HK1.out;omega⟩,⟨zR HO352⟩,⟨zb BK344⟩,⟨zi HI0⟩,⟨kk⟩,⟨bw⟩⟩
def weftmake_Reduced.l0:Nat→Int→Int→Int→Int→Option (ByteArray×ByteArray)
 | 0,_,_,_,_=>none
 | k+1,x0,x1,x5,x6=>if x6=0 then (if x5=0 then (none) else ((strconv_Itoa.f (wrap64 (Int.tdiv x0 x5))).bind fun t367=>((strconv_Itoa.f (wrap64 (Int.tdiv x1 x5))).bind fun t368=>(some (t367,t368))))) else (weftmake_Reduced.l0 k x0 x1 x6 (Int.tmod x5 x6))
def weftmake_Reduced.f (k:Nat) (a0:Int) (a1:Int):Option (ByteArray×ByteArray):=weftmake_Reduced.l0 k a0 a1 (mx a0 (wrap64 (-a0))) a1
def weftmake_Reduced.T4:Bool×List (List Nat×List Nat):=(true,[([],[]),([],[]),([0,1],[0,1]),([2],[2]),([],[]),([],[]),([4,5],[4,5]),([6,3],[6]),([3,7],[3,7]),([8,7,0,1,2,3,4,5,6,7,8],[8])])
def weftmake_Reduced.B4:List Nat:=[0,0,3,7,0,0,48,127,255,511]
theorem weftmake_Reduced.tab4:rtab .any (opsOf Tryz.f125 4)=weftmake_Reduced.T4:=by kernel_rfl
theorem weftmake_Reduced.bits4:waitsOk weftmake_Reduced.T4.2 weftmake_Reduced.B4=true:=by kernel_rfl
theorem weftmake_Reduced.calls (k:Nat) (a0:Int) (a1:Int) (r1:ByteArray) (r2:ByteArray) (w:World) (hG:Tryz.Gl w) (h:weftmake_Reduced.f k a0 a1=some (r1,r2)) :
  Calls Tryz.prog 125 #[.int .i64 a0,.int .i64 a1] w fun e w'=>e = .returned (.agg #[.string r1,.string r2])∧Below w.heap.size w w':=by
 have hu61:=underlying61
 have HG:=aZ hG
 clear hG
 have HB:=aZ (Below.refl w.heap.size w)
 have H:=h
 unfold weftmake_Reduced.f at H
 clear h
 obtain ⟨ji3,hji3⟩:∃ j_:Int,(mx a0 (wrap64 (-a0)))=j_:=⟨_,rfl⟩
 (first|rw [hji3] at H|simp only [hji3] at H)
 have hji3_:(if a0<(wrap64 (-a0)) then (wrap64 (-a0)) else a0)=ji3:=hji3
 have H':=aZ H
 clear H
 go_enter func125,ntmps125
 go_wp2_with (first|(refine box_ev 4 #[.string ⟨#[]⟩,.string ⟨#[]⟩] 61 ?_;intro gb366 hg w4 hbox hb;have BK366:=aZ hbox;have GE366:=sG hg;replace HB:=sB hb;clear hb hbox hg))
 go_loopg [5,6] k (fun kq v5 v6 w'=>∃ (x5_1:Int) (x6_1:Int),v5 = .int .i64 x5_1∧v6 = .int .i64 x6_1∧Aside0 (weftmake_Reduced.l0 kq a0 a1 x5_1 x6_1=some (r1,r2))∧Aside0 (kq≤k)∧Aside0 (w'.heap[gb366]? = some (.cells #[.string ⟨#[]⟩,.string ⟨#[]⟩] 61 (0,0)))∧Aside0 (Below w.heap.size w w'))
 case atStart=>exact ⟨(ji3),(a1),(by first|rfl|(simp;done)|(simp only [← hji3] <;> (first|rfl|simp))|(simp [*];done)),zs,H',⟨Nat.le_refl _⟩,⟨zb BK366⟩,⟨bw⟩⟩
 case round =>
  clear H'
  try clear c1
  obtain ⟨x5_1,x6_1,rfl,rfl,HA,HK1,BK366,HB⟩:=hrel
  cases gk with
  | zero=>exact absurd HA.out (by simp [weftmake_Reduced.l0])
  | succ k1 =>
   have H:=HA.out
   clear HA
   simp only [weftmake_Reduced.l0] at H
   by_cases c5:x6_1=0
   case neg=>
    rw [if_neg c5] at H
    obtain ⟨c5b0,c5b1⟩:=zX c5
    have H':=aZ H
    clear H
    try go_wp2
    replace BK366:=aZ (blk_drew BK366.out)
    replace HB:=aZ (below_drew1 HB.out)
    refine start_ (n:=6) (S:=fun w'=>True) (ds:=[]) #[false,false,false,false,false,false] (by kernel_rfl) rfl rfl trivial (fun hHeld=>?_)
    generalize wr.drew=w14 at BK366 HB hHeld ⊢
    refine pure_ (i:=0) (N:=some 14) (v:=?_) (a':=?_) #[true,false,false,false,false,false] rfl rfl (by kernel_rfl) (fun _ _ _ h=>h) (Or.inl ⟨by rfl,?_⟩) ?_ ?_
    rotate_left
    ·intro w'
     go_simp
     with_reducible rfl
    rotate_left
    ·simp only [Act.put,List.setIfInBounds_toArray,List.set_cons_zero,List.set_cons_succ,i64_w,i32_w]
     rfl
    refine pure_ (i:=1) (N:=some 15) (v:=?_) (a':=?_) #[true,true,false,false,false,false] rfl rfl (by kernel_rfl) (fun _ _ _ h=>h) (Or.inl ⟨by rfl,?_⟩) ?_ ?_
    rotate_left
    ·intro w'
     go_simp
     with_reducible rfl
    rotate_left
    ·simp only [Act.put,List.setIfInBounds_toArray,List.set_cons_zero,List.set_cons_succ,i64_w,i32_w]
     rfl
    refine pure_ (i:=2) (N:=some 16) (v:=?_) (a':=?_) #[true,true,true,false,false,false] rfl rfl (by kernel_rfl) (fun _ _ _ h=>h) (Or.inl ⟨by rfl,?_⟩) ?_ ?_
    rotate_left
    ·intro w'
     go_simp
     with_reducible rfl
    rotate_left
    ·simp only [Act.put,List.setIfInBounds_toArray,List.set_cons_zero,List.set_cons_succ,i64_w,i32_w]
     rfl
    refine pure_ (i:=3) (N:=some 17) (v:=?_) (a':=?_) #[true,true,true,true,false,false] rfl rfl (by kernel_rfl) (fun _ _ _ h=>h) (Or.inl ⟨by rfl,?_⟩) ?_ ?_
    rotate_left
    ·intro w'
     go_simp
     with_reducible rfl
    rotate_left
    ·simp only [Act.put,List.setIfInBounds_toArray,List.set_cons_zero,List.set_cons_succ,i64_w,i32_w]
     rfl
    refine pure_ (i:=4) (N:=some 5) (v:=?_) (a':=?_) #[true,true,true,true,true,false] rfl rfl (by kernel_rfl) (fun _ _ _ h=>h) (Or.inl ⟨by rfl,?_⟩) ?_ ?_
    rotate_left
    ·intro w'
     go_simp
     with_reducible rfl
    rotate_left
    ·simp only [Act.put,List.setIfInBounds_toArray,List.set_cons_zero,List.set_cons_succ,i64_w,i32_w]
     rfl
    refine pure_ (i:=5) (N:=some 6) (v:=?_) (a':=?_) #[true,true,true,true,true,true] rfl rfl (by kernel_rfl) (fun _ _ _ h=>h) (Or.inl ⟨by rfl,?_⟩) ?_ ?_
    rotate_left
    ·intro w'
     go_simp
     with_reducible rfl
    rotate_left
    ·simp only [Act.put,List.setIfInBounds_toArray,List.set_cons_zero,List.set_cons_succ,i64_w,i32_w]
     rfl
    refine done_ (by kernel_rfl) ?_
    try go_wp2
    go_roundg k1
    case measure=>have:=HK1.out;omega
    case rel=>exact ⟨(x6_1),(Int.tmod x5_1 x6_1),zs,zs,H',⟨by have:=HK1.out;omega⟩,⟨zb BK366⟩,⟨bw⟩⟩
   rw [if_pos c5] at H
   obtain ⟨c5b0,c5b1⟩:=zY c5
   clear c5
   by_cases c6:x5_1=0
   case neg=>
    rw [if_neg c6] at H
    obtain ⟨c6b0,c6b1⟩:=zX c6
    obtain ⟨t367,A7,H⟩:=zB H
    obtain ⟨t368,A8,H⟩:=zB H
    simp only [Option.some.injEq,Prod.mk.injEq] at H
    obtain ⟨rfl,rfl⟩:=H
    try go_wp2
    replace BK366:=aZ (blk_drew BK366.out)
    replace HB:=aZ (below_drew1 HB.out)
    refine start_ (n:=10) (S:=fun w'=>True) (ds:=[]) #[false,false,false,false,false,false,false,false,false,false] (by kernel_rfl) rfl rfl trivial (fun hHeld=>?_);refine with_tabW weftmake_Reduced.tab4 weftmake_Reduced.bits4 (fun HT_ HW_=>?_)
    generalize wr.drew=w9 at BK366 HB hHeld ⊢
    refine pu 0 (some 18) HT_ ?_
    refine pu 1 (some 19) HT_ ?_
    refine pu 2 (some 20) HT_ ?_
    refine pu 4 (some 22) HT_ ?_
    refine pu 5 (some 23) HT_ ?_
    refine pu 6 (some 24) HT_ ?_
    refine one_ (i:=3) (N:=some 21) #[true,true,true,true,true,true,true,false,false,false] rfl rfl (one_of HT_.out (by kernel_rfl)) (by decide) (fun K hK=>?_)
    refine goes_ func138 (by kernel_rfl) rfl #[.int .i64 (wrap64 (Int.tdiv a0 x5_1))] (by rfl) rfl rfl zm ?_
    with_reducible refine (strconv_Itoa.calls (wrap64 (Int.tdiv a0 x5_1)) t367 _ ?side1 A7.out).mono ?_
    (case side1=>exact Tryz.Gl.below HG.out bw)
    rintro e w10 ⟨rfl,hb⟩
    refine ⟨_,rfl,?_⟩
    replace BK366:=sK BK366 hb
    replace HB:=sB hb
    clear hb
    refine hK.out _ _ trivial (fun hHeld=>?_)
    clear hK K
    refine nm ?_
    refine one_ (i:=7) (N:=some 25) #[true,true,true,true,true,true,true,true,false,false] rfl rfl (one_of HT_.out (by kernel_rfl)) (by decide) (fun K hK=>?_)
    refine goes_ func138 (by kernel_rfl) rfl #[.int .i64 (wrap64 (Int.tdiv a1 x5_1))] (by rfl) rfl rfl zm ?_
    with_reducible refine (strconv_Itoa.calls (wrap64 (Int.tdiv a1 x5_1)) t368 _ ?side1 A8.out).mono ?_
    (case side1=>exact Tryz.Gl.below HG.out bw)
    rintro e w11 ⟨rfl,hb⟩
    refine ⟨_,rfl,?_⟩
    replace BK366:=sK BK366 hb
    replace HB:=sB hb
    clear hb
    refine hK.out _ _ trivial (fun hHeld=>?_)
    clear hK K
    refine nm ?_
    refine pu 8 (some 26) HT_ ?_
    refine one_ (i:=9) (N:=none) #[true,true,true,true,true,true,true,true,true,true] rfl rfl (one_of HT_.out (by kernel_rfl)) (by decide) (fun K hK=>?_)
    have hs12:w11.cell? ⟨gb366,0,none⟩=some (.string (⟨#[]⟩:ByteArray)):=(blk_cell BK366.out 0).trans rfl
    have hfs12:=blk_frozen BK366.out 0
    have hs13:w11.cell? ⟨gb366,1,none⟩=some (.string (⟨#[]⟩:ByteArray)):=(blk_cell BK366.out 1).trans rfl
    have hfs13:=blk_frozen BK366.out 1
    refine skip_ (w1:=?_) (by rfl) rfl ?_ ?_
    rotate_left
    ·go_simp
     rfl
    refine hK.out _ _ trivial (fun hHeld=>?_)
    clear hK K
    refine done_ (done_of HT_.out (by kernel_rfl)) ?_
    try go_wp2
    refine bodyPost_ret (results_cell_row rfl _ _ gb366 61 #[.string t367,.string t368] (0,0) _ rfl (zp BK366) underlying61 rfl (by kernel_rfl)) rfl ?_
    exact ⟨by first|rfl|(simp [errW_none,errW_some] <;> rfl)|(simp only [← hji3];first|rfl|(simp [errW_none,errW_some] <;> rfl))|(simp [*,errW_none,errW_some] <;> rfl),bw⟩
   rw [if_pos c6] at H
   cases H
def weftmake_Stream_Rat.f (k:Nat) (s0_0:List Int) (s0_1:Int):Option (ByteArray×ByteArray×Int):=(weftmake_Stream_Range.f s0_0 s0_1 (-20) 20).bind fun bt370=>((weftmake_Stream_Next.f s0_0 bt370.2 6).bind fun bt372=>(if bt372.1=0 then ((weftmake_Stream_Range.f s0_0 bt372.2 1 9).bind fun bt374=>((weftmake_Reduced.f k bt370.1 bt374.1).bind fun bt376=>(some (bt376.1,bt376.2,bt374.2)))) else (if bt372.1=1 then ((weftmake_Stream_Pick.f s0_0 bt372.2 (([2,4,8,3,7,1000]:List Int))).bind fun bt381=>((weftmake_Reduced.f k bt370.1 bt381.1).bind fun bt383=>(some (bt383.1,bt383.2,bt381.2)))) else (if bt372.1=2 then ((weftmake_Stream_Word.f s0_0 bt372.2).bind fun bt385=>((weftmake_Stream_Range.f s0_0 bt385.2 1 99).bind fun bt387=>((weftmake_Reduced.f k bt385.1 bt387.1).bind fun bt389=>(some (bt389.1,bt389.2,bt387.2))))) else (if bt372.1=3 then ((weftmake_Stream_Long.f k s0_0 bt372.2).bind fun bt391=>(some (bt391.1,bt391.2.1,bt391.2.2))) else ((weftmake_Reduced.f k bt370.1 1).bind fun bt394=>(some (bt394.1,bt394.2,bt372.2))))))))
theorem weftmake_Stream_Rat.calls (k:Nat) (g:Nat) (s0_0:List Int) (s0_1:Int) (r1:ByteArray) (r2:ByteArray) (r3:Int) (w0 w:World) (hI:IsS44 w0 w g s0_0 s0_1) (hB:Below w0.heap.size w0 w) (hG:Tryz.Gl w0) (h:weftmake_Stream_Rat.f k s0_0 s0_1=some (r1,r2,r3)) :
  Calls Tryz.prog 72 #[.pointer (some ⟨g,0,none⟩)] w fun e w'=>e = .returned (.agg #[.string r1,.string r2])∧IsS44 w0 w' g s0_0 r3∧Below w0.heap.size w0 w'∧KeepBut w w' g none:=by
 have hu61:=underlying61
 have HG:=aZ hG
 clear hG
 have HI0:=aZ hI
 have HK:=aZ (KeepBut.refl w g none)
 have HL:=aZ hB.size
 clear hI
 have HW0:=aZ hB.size
 have HB:=aZ hB
 clear hB
 have H:=h
 unfold weftmake_Stream_Rat.f at H
 clear h
 obtain ⟨⟨t370,t371⟩,A2,H⟩:=zB H
 (try dsimp only at H)
 obtain ⟨⟨t372,t373⟩,A3,H⟩:=zB H
 (try dsimp only at H)
 by_cases c4:t372=0
 case neg=>
  rw [if_neg c4] at H
  obtain ⟨c4b0,c4b1⟩:=zX c4
  by_cases c14:t372=1
  case neg=>
   rw [if_neg c14] at H
   obtain ⟨c14b0,c14b1⟩:=zX c14
   by_cases c27:t372=2
   case neg=>
    rw [if_neg c27] at H
    obtain ⟨c27b0,c27b1⟩:=zX c27
    by_cases c39:t372=3
    case neg=>
     rw [if_neg c39] at H
     obtain ⟨c39b0,c39b1⟩:=zX c39
     obtain ⟨⟨t394,t395⟩,A47,H⟩:=zB H
     (try dsimp only at H)
     simp only [Option.some.injEq,Prod.mk.injEq] at H
     obtain ⟨rfl,rfl,rfl⟩:=H
     go_enter func72,ntmps72
     go_wp2_with (first|(refine box_ev 2 #[.string ⟨#[]⟩,.string ⟨#[]⟩] 61 ?_;intro gb369 hg w48 hbox hb;replace HB:=sB hb;have BK369:=aZ hbox;have GW369:=sE hg;have GE369:=zW HW0 hg;replace HK:=sU hb;have NB0_369:=aZ ((by rw [hg];exact Nat.ne_of_lt (IsS44.lt (show IsS44 w0 _ g s0_0 s0_1 from zi HI0)):g≠gb369));have NB369_0:=aZ ((by rw [hg];exact Nat.ne_of_gt (IsS44.lt (show IsS44 w0 _ g s0_0 s0_1 from zi HI0)):gb369≠g));replace HI0:=aZ (IsS44.below (zi HI0) hb);clear hb hbox hg)|(refine zg (some 6) func37 #[.pointer (some ⟨g,0,none⟩),.int .i64 (-20),.int .i64 20] ?_;(with_reducible refine (weftmake_Stream_Range.calls g s0_0 s0_1 (-20) 20 t370 t371 w0 _ ?side1 ?side2 A2.out).mono ?_);(case side1=>exact zi HI0);(case side2=>exact bw);rintro e w49 ⟨rfl,hi,hb,hk⟩;refine ⟨_,rfl,?_⟩;replace BK369:=aZ (KeepBut.blk hk (g':=gb369) (o:=.cells #[.string ⟨#[]⟩,.string ⟨#[]⟩] 61 (0,0)) (zb BK369) NB369_0.out (by simp));replace HK:=sT hk;replace HB:=aZ (hb);replace HI0:=aZ (hi);clear hb hk hi)|(refine zg (some 8) func33 #[.pointer (some ⟨g,0,none⟩),.int .i64 6] ?_;(with_reducible refine (weftmake_Stream_Next.calls g s0_0 t371 6 t372 t373 w0 _ ?side1 ?side2 A3.out).mono ?_);(case side1=>exact zi HI0);(case side2=>exact bw);rintro e w50 ⟨rfl,hi,hb,hk⟩;refine ⟨_,rfl,?_⟩;replace BK369:=aZ (KeepBut.blk hk (g':=gb369) (o:=.cells #[.string ⟨#[]⟩,.string ⟨#[]⟩] 61 (0,0)) (zb BK369) NB369_0.out (by simp));replace HK:=sT hk;replace HB:=aZ (hb);replace HI0:=aZ (hi);clear hb hk hi)|(refine zg (some 30) func125 #[.int .i64 t370,.int .i64 1] ?_;(with_reducible refine (weftmake_Reduced.calls k t370 1 t394 t395 _ ?side1 A47.out).mono ?_);(case side1=>exact Tryz.Gl.below HG.out bw);rintro e w51 ⟨rfl,hb⟩;refine ⟨_,rfl,?_⟩;replace HI0:=aZ (IsS44.below (zi HI0) hb);replace BK369:=sK BK369 hb;replace HK:=sU hb;replace HB:=sB hb;clear hb;have hnb52:=NB369_0.out;have hnc52:=NB0_369.out;obtain ⟨hcz53_0,hfz53_0⟩:=zc BK369 0 (.string ⟨#[]⟩) rfl;obtain ⟨hcz53_1,hfz53_1⟩:=zc BK369 1 (.string ⟨#[]⟩) rfl))
     refine bodyPost_ret (results_cell_row rfl _ _ gb369 61 #[.string t394,.string t395] (0,0) _ rfl (zp BK369) underlying61 rfl (by kernel_rfl)) rfl ?_
     exact ⟨ze,zi HI0,bw,kk⟩
    rw [if_pos c39] at H
    obtain ⟨c39b0,c39b1⟩:=zY c39
    clear c39
    obtain ⟨⟨t391,t392,t393⟩,A40,H⟩:=zB H
    (try dsimp only at H)
    simp only [Option.some.injEq,Prod.mk.injEq] at H
    obtain ⟨rfl,rfl,rfl⟩:=H
    go_enter func72,ntmps72
    go_wp2_with (first|(refine box_ev 2 #[.string ⟨#[]⟩,.string ⟨#[]⟩] 61 ?_;intro gb369 hg w41 hbox hb;replace HB:=sB hb;have BK369:=aZ hbox;have GW369:=sE hg;have GE369:=zW HW0 hg;replace HK:=sU hb;have NB0_369:=aZ ((by rw [hg];exact Nat.ne_of_lt (IsS44.lt (show IsS44 w0 _ g s0_0 s0_1 from zi HI0)):g≠gb369));have NB369_0:=aZ ((by rw [hg];exact Nat.ne_of_gt (IsS44.lt (show IsS44 w0 _ g s0_0 s0_1 from zi HI0)):gb369≠g));replace HI0:=aZ (IsS44.below (zi HI0) hb);clear hb hbox hg)|(refine zg (some 6) func37 #[.pointer (some ⟨g,0,none⟩),.int .i64 (-20),.int .i64 20] ?_;(with_reducible refine (weftmake_Stream_Range.calls g s0_0 s0_1 (-20) 20 t370 t371 w0 _ ?side1 ?side2 A2.out).mono ?_);(case side1=>exact zi HI0);(case side2=>exact bw);rintro e w42 ⟨rfl,hi,hb,hk⟩;refine ⟨_,rfl,?_⟩;replace BK369:=aZ (KeepBut.blk hk (g':=gb369) (o:=.cells #[.string ⟨#[]⟩,.string ⟨#[]⟩] 61 (0,0)) (zb BK369) NB369_0.out (by simp));replace HK:=sT hk;replace HB:=aZ (hb);replace HI0:=aZ (hi);clear hb hk hi)|(refine zg (some 8) func33 #[.pointer (some ⟨g,0,none⟩),.int .i64 6] ?_;(with_reducible refine (weftmake_Stream_Next.calls g s0_0 t371 6 t372 t373 w0 _ ?side1 ?side2 A3.out).mono ?_);(case side1=>exact zi HI0);(case side2=>exact bw);rintro e w43 ⟨rfl,hi,hb,hk⟩;refine ⟨_,rfl,?_⟩;replace BK369:=aZ (KeepBut.blk hk (g':=gb369) (o:=.cells #[.string ⟨#[]⟩,.string ⟨#[]⟩] 61 (0,0)) (zb BK369) NB369_0.out (by simp));replace HK:=sT hk;replace HB:=aZ (hb);replace HI0:=aZ (hi);clear hb hk hi)|(refine zg (some 27) func124 #[.pointer (some ⟨g,0,none⟩)] ?_;(with_reducible refine (weftmake_Stream_Long.calls k g s0_0 t373 t391 t392 t393 w0 _ ?side1 ?side2 ?side3 A40.out).mono ?_);(case side1=>exact zi HI0);(case side2=>exact bw);(case side3=>exact HG.out);rintro e w44 ⟨rfl,hi,hb,hk⟩;refine ⟨_,rfl,?_⟩;replace BK369:=aZ (KeepBut.blk hk (g':=gb369) (o:=.cells #[.string ⟨#[]⟩,.string ⟨#[]⟩] 61 (0,0)) (zb BK369) NB369_0.out (by simp));replace HK:=sT hk;replace HB:=aZ (hb);replace HI0:=aZ (hi);clear hb hk hi;have hnb45:=NB369_0.out;have hnc45:=NB0_369.out;obtain ⟨hcz46_0,hfz46_0⟩:=zc BK369 0 (.string ⟨#[]⟩) rfl;obtain ⟨hcz46_1,hfz46_1⟩:=zc BK369 1 (.string ⟨#[]⟩) rfl))
    refine bodyPost_ret (results_cell_row rfl _ _ gb369 61 #[.string t391,.string t392] (0,0) _ rfl (zp BK369) underlying61 rfl (by kernel_rfl)) rfl ?_
    exact ⟨ze,zi HI0,bw,kk⟩
   rw [if_pos c27] at H
   obtain ⟨c27b0,c27b1⟩:=zY c27
   clear c27
   obtain ⟨⟨t385,t386⟩,A28,H⟩:=zB H
   (try dsimp only at H)
   obtain ⟨⟨t387,t388⟩,A29,H⟩:=zB H
   (try dsimp only at H)
   obtain ⟨⟨t389,t390⟩,A30,H⟩:=zB H
   (try dsimp only at H)
   simp only [Option.some.injEq,Prod.mk.injEq] at H
   obtain ⟨rfl,rfl,rfl⟩:=H
   go_enter func72,ntmps72
   go_wp2_with (first|(refine box_ev 2 #[.string ⟨#[]⟩,.string ⟨#[]⟩] 61 ?_;intro gb369 hg w31 hbox hb;replace HB:=sB hb;have BK369:=aZ hbox;have GW369:=sE hg;have GE369:=zW HW0 hg;replace HK:=sU hb;have NB0_369:=aZ ((by rw [hg];exact Nat.ne_of_lt (IsS44.lt (show IsS44 w0 _ g s0_0 s0_1 from zi HI0)):g≠gb369));have NB369_0:=aZ ((by rw [hg];exact Nat.ne_of_gt (IsS44.lt (show IsS44 w0 _ g s0_0 s0_1 from zi HI0)):gb369≠g));replace HI0:=aZ (IsS44.below (zi HI0) hb);clear hb hbox hg)|(refine zg (some 6) func37 #[.pointer (some ⟨g,0,none⟩),.int .i64 (-20),.int .i64 20] ?_;(with_reducible refine (weftmake_Stream_Range.calls g s0_0 s0_1 (-20) 20 t370 t371 w0 _ ?side1 ?side2 A2.out).mono ?_);(case side1=>exact zi HI0);(case side2=>exact bw);rintro e w32 ⟨rfl,hi,hb,hk⟩;refine ⟨_,rfl,?_⟩;replace BK369:=aZ (KeepBut.blk hk (g':=gb369) (o:=.cells #[.string ⟨#[]⟩,.string ⟨#[]⟩] 61 (0,0)) (zb BK369) NB369_0.out (by simp));replace HK:=sT hk;replace HB:=aZ (hb);replace HI0:=aZ (hi);clear hb hk hi)|(refine zg (some 8) func33 #[.pointer (some ⟨g,0,none⟩),.int .i64 6] ?_;(with_reducible refine (weftmake_Stream_Next.calls g s0_0 t371 6 t372 t373 w0 _ ?side1 ?side2 A3.out).mono ?_);(case side1=>exact zi HI0);(case side2=>exact bw);rintro e w33 ⟨rfl,hi,hb,hk⟩;refine ⟨_,rfl,?_⟩;replace BK369:=aZ (KeepBut.blk hk (g':=gb369) (o:=.cells #[.string ⟨#[]⟩,.string ⟨#[]⟩] 61 (0,0)) (zb BK369) NB369_0.out (by simp));replace HK:=sT hk;replace HB:=aZ (hb);replace HI0:=aZ (hi);clear hb hk hi)|(refine zg (some 21) func123 #[.pointer (some ⟨g,0,none⟩)] ?_;(with_reducible refine (weftmake_Stream_Word.calls g s0_0 t373 t385 t386 w0 _ ?side1 ?side2 A28.out).mono ?_);(case side1=>exact zi HI0);(case side2=>exact bw);rintro e w34 ⟨rfl,hi,hb,hk⟩;refine ⟨_,rfl,?_⟩;replace BK369:=aZ (KeepBut.blk hk (g':=gb369) (o:=.cells #[.string ⟨#[]⟩,.string ⟨#[]⟩] 61 (0,0)) (zb BK369) NB369_0.out (by simp));replace HK:=sT hk;replace HB:=aZ (hb);replace HI0:=aZ (hi);clear hb hk hi)|(refine zg (some 23) func37 #[.pointer (some ⟨g,0,none⟩),.int .i64 1,.int .i64 99] ?_;(with_reducible refine (weftmake_Stream_Range.calls g s0_0 t386 1 99 t387 t388 w0 _ ?side1 ?side2 A29.out).mono ?_);(case side1=>exact zi HI0);(case side2=>exact bw);rintro e w35 ⟨rfl,hi,hb,hk⟩;refine ⟨_,rfl,?_⟩;replace BK369:=aZ (KeepBut.blk hk (g':=gb369) (o:=.cells #[.string ⟨#[]⟩,.string ⟨#[]⟩] 61 (0,0)) (zb BK369) NB369_0.out (by simp));replace HK:=sT hk;replace HB:=aZ (hb);replace HI0:=aZ (hi);clear hb hk hi)|(refine zg (some 30) func125 #[.int .i64 t385,.int .i64 t387] ?_;(with_reducible refine (weftmake_Reduced.calls k t385 t387 t389 t390 _ ?side1 A30.out).mono ?_);(case side1=>exact Tryz.Gl.below HG.out bw);rintro e w36 ⟨rfl,hb⟩;refine ⟨_,rfl,?_⟩;replace HI0:=aZ (IsS44.below (zi HI0) hb);replace BK369:=sK BK369 hb;replace HK:=sU hb;replace HB:=sB hb;clear hb;have hnb37:=NB369_0.out;have hnc37:=NB0_369.out;obtain ⟨hcz38_0,hfz38_0⟩:=zc BK369 0 (.string ⟨#[]⟩) rfl;obtain ⟨hcz38_1,hfz38_1⟩:=zc BK369 1 (.string ⟨#[]⟩) rfl))
   refine bodyPost_ret (results_cell_row rfl _ _ gb369 61 #[.string t389,.string t390] (0,0) _ rfl (zp BK369) underlying61 rfl (by kernel_rfl)) rfl ?_
   exact ⟨ze,zi HI0,bw,kk⟩
  rw [if_pos c14] at H
  obtain ⟨c14b0,c14b1⟩:=zY c14
  clear c14
  obtain ⟨y378,hy378⟩:∃ y_:List Int,y_=(([2,4,8,3,7,1000]:List Int)):=⟨_,rfl⟩
  replace H:((weftmake_Stream_Pick.f s0_0 t373 y378).bind fun bt381=>((weftmake_Reduced.f k t370 bt381.1).bind fun bt383=>(some (bt383.1,bt383.2,bt381.2))))=some (r1,r2,r3):=zy hy378 H
  have Ny378:=aZ hy378
  clear hy378
  obtain ⟨⟨t381,t382⟩,A15,H⟩:=zB H
  (try dsimp only at H)
  obtain ⟨⟨t383,t384⟩,A16,H⟩:=zB H
  (try dsimp only at H)
  simp only [Option.some.injEq,Prod.mk.injEq] at H
  obtain ⟨rfl,rfl,rfl⟩:=H
  go_enter func72,ntmps72
  go_wp2_with (first|(refine box_ev 2 #[.string ⟨#[]⟩,.string ⟨#[]⟩] 61 ?_;intro gb369 hg w17 hbox hb;replace HB:=sB hb;have BK369:=aZ hbox;have GW369:=sE hg;have GE369:=zW HW0 hg;replace HK:=sU hb;have NB0_369:=aZ ((by rw [hg];exact Nat.ne_of_lt (IsS44.lt (show IsS44 w0 _ g s0_0 s0_1 from zi HI0)):g≠gb369));have NB369_0:=aZ ((by rw [hg];exact Nat.ne_of_gt (IsS44.lt (show IsS44 w0 _ g s0_0 s0_1 from zi HI0)):gb369≠g));replace HI0:=aZ (IsS44.below (zi HI0) hb);clear hb hbox hg)|(refine zg (some 6) func37 #[.pointer (some ⟨g,0,none⟩),.int .i64 (-20),.int .i64 20] ?_;(with_reducible refine (weftmake_Stream_Range.calls g s0_0 s0_1 (-20) 20 t370 t371 w0 _ ?side1 ?side2 A2.out).mono ?_);(case side1=>exact zi HI0);(case side2=>exact bw);rintro e w18 ⟨rfl,hi,hb,hk⟩;refine ⟨_,rfl,?_⟩;replace BK369:=aZ (KeepBut.blk hk (g':=gb369) (o:=.cells #[.string ⟨#[]⟩,.string ⟨#[]⟩] 61 (0,0)) (zb BK369) NB369_0.out (by simp));replace HK:=sT hk;replace HB:=aZ (hb);replace HI0:=aZ (hi);clear hb hk hi)|(refine zg (some 8) func33 #[.pointer (some ⟨g,0,none⟩),.int .i64 6] ?_;(with_reducible refine (weftmake_Stream_Next.calls g s0_0 t371 6 t372 t373 w0 _ ?side1 ?side2 A3.out).mono ?_);(case side1=>exact zi HI0);(case side2=>exact bw);rintro e w19 ⟨rfl,hi,hb,hk⟩;refine ⟨_,rfl,?_⟩;replace BK369:=aZ (KeepBut.blk hk (g':=gb369) (o:=.cells #[.string ⟨#[]⟩,.string ⟨#[]⟩] 61 (0,0)) (zb BK369) NB369_0.out (by simp));replace HK:=sT hk;replace HB:=aZ (hb);replace HI0:=aZ (hi);clear hb hk hi)|((with_reducible refine gate_dst (N:=16) rfl ?_);refine Kd.R_lit (Kd.int .i64) _ 3 ?hg (N:=16) ?hd (xs:=([2,4,8,3,7,1000]:List Int)) (inner:=[.int .i64 2,.int .i64 4,.int .i64 8,.int .i64 3,.int .i64 7,.int .i64 1000]) (ok:=fun _=>True) (okp:=fun _=>True) ?hr ?hp (fun _ hk=>hk) trivial (Below.refl _ _) (Nat.le_refl _) (by simp) ?_;(case hd=>rfl);(case hg=>rfl);(case hr=>first|(go_simp;done)|(go_simp;rfl));(case hp=>exact (Reps.one (show Kd.M (Kd.int .i64) _ _ _ 2 [.int .i64 2] from rfl) (Reps.one (show Kd.M (Kd.int .i64) _ _ _ 4 [.int .i64 4] from rfl) (Reps.one (show Kd.M (Kd.int .i64) _ _ _ 8 [.int .i64 8] from rfl) (Reps.one (show Kd.M (Kd.int .i64) _ _ _ 3 [.int .i64 3] from rfl) (Reps.one (show Kd.M (Kd.int .i64) _ _ _ 7 [.int .i64 7] from rfl) (Reps.one (show Kd.M (Kd.int .i64) _ _ _ 1000 [.int .i64 1000] from rfl) (Reps.none _ _))))))));intro v379 w20 ho21 hb hg_ hnew_;clear hg_ hnew_;(first|rw [← Ny378.out] at ho21|(simp only [Int.reduceToNat] at ho21;rw [← Ny378.out] at ho21));have HO380:=aZ (Kd.R_lower ho21 ks);replace HI0:=aZ (IsS44.below (zi HI0) hb);replace BK369:=sK BK369 hb;replace HK:=sU hb;replace HB:=sB hb;clear hb ho21;obtain ⟨Ao22,co22,rfl⟩:=Kd.R_slice HO380.out)|(refine zg (some 17) func122 #[.pointer (some ⟨g,0,none⟩),.slice Ao22 y378.length co22] ?_;(with_reducible refine (weftmake_Stream_Pick.calls g s0_0 t373 _ _ y378 t381 t382 w0 _ ?side1 ?side2 ?side3 ?side4 ?side5 A15.out).mono ?_);(case side1=>exact zi HI0);(case side2=>exact bw);(case side3=>exact zC (Kd.R_reads' HO380.out).2.2);(case side4=>exact (Kd.R_reads' HO380.out).2.1);(case side5=>exact far_slice (IsS44.own_ne HI0.out HO380.out (by decide)));rintro e w23 ⟨rfl,hi,hb,hk⟩;refine ⟨_,rfl,?_⟩;replace BK369:=aZ (KeepBut.blk hk (g':=gb369) (o:=.cells #[.string ⟨#[]⟩,.string ⟨#[]⟩] 61 (0,0)) (zb BK369) NB369_0.out (by simp));replace HO380:=aZ (Kd.R_mono (Kd.R_keep (IsS44.apart (show IsS44 w0 _ g s0_0 t373 from zi HI0) (zR HO380) (by decide)) hk (fun _ h=>h.2)) (fun _ h=>h.1));replace HK:=sT hk;replace HB:=aZ (hb);replace HI0:=aZ (hi);clear hb hk hi)|(refine zg (some 30) func125 #[.int .i64 t370,.int .i64 t381] ?_;(with_reducible refine (weftmake_Reduced.calls k t370 t381 t383 t384 _ ?side1 A16.out).mono ?_);(case side1=>exact Tryz.Gl.below HG.out bw);rintro e w24 ⟨rfl,hb⟩;refine ⟨_,rfl,?_⟩;replace HO380:=yR HO380 hb;replace HI0:=aZ (IsS44.below (zi HI0) hb);replace BK369:=sK BK369 hb;replace HK:=sU hb;replace HB:=sB hb;clear hb;have hnb25:=NB369_0.out;have hnc25:=NB0_369.out;obtain ⟨hcz26_0,hfz26_0⟩:=zc BK369 0 (.string ⟨#[]⟩) rfl;obtain ⟨hcz26_1,hfz26_1⟩:=zc BK369 1 (.string ⟨#[]⟩) rfl))
  refine bodyPost_ret (results_cell_row rfl _ _ gb369 61 #[.string t383,.string t384] (0,0) _ rfl (zp BK369) underlying61 rfl (by kernel_rfl)) rfl ?_
  exact ⟨ze,zi HI0,bw,kk⟩
 rw [if_pos c4] at H
 obtain ⟨c4b0,c4b1⟩:=zY c4
 clear c4
 obtain ⟨⟨t374,t375⟩,A5,H⟩:=zB H
 (try dsimp only at H)
 obtain ⟨⟨t376,t377⟩,A6,H⟩:=zB H
 (try dsimp only at H)
 simp only [Option.some.injEq,Prod.mk.injEq] at H
 obtain ⟨rfl,rfl,rfl⟩:=H
 go_enter func72,ntmps72
 go_wp2_with (first|(refine box_ev 2 #[.string ⟨#[]⟩,.string ⟨#[]⟩] 61 ?_;intro gb369 hg w7 hbox hb;replace HB:=sB hb;have BK369:=aZ hbox;have GW369:=sE hg;have GE369:=zW HW0 hg;replace HK:=sU hb;have NB0_369:=aZ ((by rw [hg];exact Nat.ne_of_lt (IsS44.lt (show IsS44 w0 _ g s0_0 s0_1 from zi HI0)):g≠gb369));have NB369_0:=aZ ((by rw [hg];exact Nat.ne_of_gt (IsS44.lt (show IsS44 w0 _ g s0_0 s0_1 from zi HI0)):gb369≠g));replace HI0:=aZ (IsS44.below (zi HI0) hb);clear hb hbox hg)|(refine zg (some 6) func37 #[.pointer (some ⟨g,0,none⟩),.int .i64 (-20),.int .i64 20] ?_;(with_reducible refine (weftmake_Stream_Range.calls g s0_0 s0_1 (-20) 20 t370 t371 w0 _ ?side1 ?side2 A2.out).mono ?_);(case side1=>exact zi HI0);(case side2=>exact bw);rintro e w8 ⟨rfl,hi,hb,hk⟩;refine ⟨_,rfl,?_⟩;replace BK369:=aZ (KeepBut.blk hk (g':=gb369) (o:=.cells #[.string ⟨#[]⟩,.string ⟨#[]⟩] 61 (0,0)) (zb BK369) NB369_0.out (by simp));replace HK:=sT hk;replace HB:=aZ (hb);replace HI0:=aZ (hi);clear hb hk hi)|(refine zg (some 8) func33 #[.pointer (some ⟨g,0,none⟩),.int .i64 6] ?_;(with_reducible refine (weftmake_Stream_Next.calls g s0_0 t371 6 t372 t373 w0 _ ?side1 ?side2 A3.out).mono ?_);(case side1=>exact zi HI0);(case side2=>exact bw);rintro e w9 ⟨rfl,hi,hb,hk⟩;refine ⟨_,rfl,?_⟩;replace BK369:=aZ (KeepBut.blk hk (g':=gb369) (o:=.cells #[.string ⟨#[]⟩,.string ⟨#[]⟩] 61 (0,0)) (zb BK369) NB369_0.out (by simp));replace HK:=sT hk;replace HB:=aZ (hb);replace HI0:=aZ (hi);clear hb hk hi)|(refine zg (some 12) func37 #[.pointer (some ⟨g,0,none⟩),.int .i64 1,.int .i64 9] ?_;(with_reducible refine (weftmake_Stream_Range.calls g s0_0 t373 1 9 t374 t375 w0 _ ?side1 ?side2 A5.out).mono ?_);(case side1=>exact zi HI0);(case side2=>exact bw);rintro e w10 ⟨rfl,hi,hb,hk⟩;refine ⟨_,rfl,?_⟩;replace BK369:=aZ (KeepBut.blk hk (g':=gb369) (o:=.cells #[.string ⟨#[]⟩,.string ⟨#[]⟩] 61 (0,0)) (zb BK369) NB369_0.out (by simp));replace HK:=sT hk;replace HB:=aZ (hb);replace HI0:=aZ (hi);clear hb hk hi)|(refine zg (some 30) func125 #[.int .i64 t370,.int .i64 t374] ?_;(with_reducible refine (weftmake_Reduced.calls k t370 t374 t376 t377 _ ?side1 A6.out).mono ?_);(case side1=>exact Tryz.Gl.below HG.out bw);rintro e w11 ⟨rfl,hb⟩;refine ⟨_,rfl,?_⟩;replace HI0:=aZ (IsS44.below (zi HI0) hb);replace BK369:=sK BK369 hb;replace HK:=sU hb;replace HB:=sB hb;clear hb;have hnb12:=NB369_0.out;have hnc12:=NB0_369.out;obtain ⟨hcz13_0,hfz13_0⟩:=zc BK369 0 (.string ⟨#[]⟩) rfl;obtain ⟨hcz13_1,hfz13_1⟩:=zc BK369 1 (.string ⟨#[]⟩) rfl))
 refine bodyPost_ret (results_cell_row rfl _ _ gb369 61 #[.string t376,.string t377] (0,0) _ rfl (zp BK369) underlying61 rfl (by kernel_rfl)) rfl ?_
 exact ⟨ze,zi HI0,bw,kk⟩
end Go.Proofs.YtaffkbemjbfajaaGreatDoor.PNumSums
