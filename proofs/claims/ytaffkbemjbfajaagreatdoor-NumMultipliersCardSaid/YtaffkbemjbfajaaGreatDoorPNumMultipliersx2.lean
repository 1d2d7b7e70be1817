-- By a program of this session: functions as plain Lean functions, each with its proof over the machine.
import Derived.Test.YtaffkbemjbfajaaGreatDoorPNumMultipliersx0
import Derived.Test.YtaffkbemjbfajaaGreatDoorPNumMultipliersx1
namespace Go.Proofs.YtaffkbemjbfajaaGreatDoor.PNumMultipliers
open Go.RowKit Go.Proofs.Tryz Go.Proofs.YtaffkbemjbfajaaGreatDoorW.PrintWords Go.Proofs.YtaffkbemjbfajaaGreatDoorW.PrintLast Go.Proofs.YtaffkbemjbfajaaGreatDoorW.PrintMore
attribute [local go_sem] max2_int min2_int max_two min_two max_three min_three max_four min_four
set_option linter.unusedVariables false
set_option linter.unusedSimpArgs false
set_option maxHeartbeats 8000000
set_option maxRecDepth 100000
def IsS44 (w0 W:World) (g:Nat) (f0:List Int) (f1:Int):Prop:=∃ A0 c0,W.heap[g]? = some (.cells #[.slice A0 f0.length c0,.int .i64 f1] 44 (0,0))∧w0.heap.size≤g∧Kd.C (Kd.int .i64) w0 A0 f0.length f0
theorem IsS44.grown {w0 W:World} {g:Nat} {f0:List Int} {f1:Int} {W1:World} {row:Option Nat} (h:IsS44 w0 W g f0 f1) (hw:W.grownBy W1 row) (hne:some g≠row):IsS44 w0 W1 g f0 f1:=by
 obtain ⟨A0,c0,hb,hg,hr0⟩:=h
 exact ⟨A0,c0,blk_grown hb hw hne,hg,hr0⟩
theorem IsS44.fresh {w0 W:World} {g:Nat} {f0:List Int} {f1:Int} (h:IsS44 w0 W g f0 f1):∀ k,W.heap.size≤k→k≠g:=by
 obtain ⟨A0,c0,hb,hg,hr0⟩:=h
 exact Kd.freshB hb
theorem IsS44.kept {w0 W:World} {g:Nat} {f0:List Int} {f1:Int} {W1:World} {S:Nat→Prop} (h:IsS44 w0 W g f0 f1) (hk:Kept W W1 S) (hne:¬ S g):IsS44 w0 W1 g f0 f1:=by
 obtain ⟨A0,c0,hb,hg,hr0⟩:=h
 exact ⟨A0,c0,blk_kept hb hk hne,hg,hr0⟩
theorem IsS44.below {w0 W:World} {g:Nat} {f0:List Int} {f1:Int} {W1:World} (h:IsS44 w0 W g f0 f1) (hw:Below W.heap.size W W1):IsS44 w0 W1 g f0 f1:=h.grown (grown_of_below hw none) (by simp)
theorem IsS44.alloc {w0 W:World} {g:Nat} {f0:List Int} {f1:Int} (h:IsS44 w0 W g f0 f1) (o:Obj):IsS44 w0 (W.alloc o) g f0 f1:=h.below (below_alloc (Below.refl _ _) o)
theorem IsS44.drewN {w0 W:World} {g:Nat} {f0:List Int} {f1:Int} (h:IsS44 w0 W g f0 f1) (m:Nat):IsS44 w0 (W.drewN m) g f0 f1:=h
theorem IsS44.drew {w0 W:World} {g:Nat} {f0:List Int} {f1:Int} (h:IsS44 w0 W g f0 f1):IsS44 w0 W.drew g f0 f1:=h
theorem IsS44.at_ {w0 W:World} {g:Nat} {f0:List Int} {f1:Int} {w':World} {m:Nat} (hq:W.drewN m=w') (h:IsS44 w0 W g f0 f1):IsS44 w0 w' g f0 f1:=by subst hq;exact IsS44.drewN h m
theorem IsS44.apart {w0 W:World} {g:Nat} {f0:List Int} {f1:Int} {α:Type} {d:Kd α} {e:Nat} {base:Nat} {ok:Nat→Prop} {v:Value} {xs:List α} (h:IsS44 w0 W g f0 f1) (ho:d.R e W base ok v xs) (ht:∀ q,q ∈ e :: d.E→q≠44):d.R e W base (fun k=>ok k∧k≠g) v xs:=by
 obtain ⟨A0,c0,hb,hg,hr0⟩:=h
 exact Kd.R_types ho hb ht
theorem IsS44.own_ne {w0 W:World} {g:Nat} {f0:List Int} {f1:Int} {α:Type} {d:Kd α} {e:Nat} {base:Nat} {ok:Nat→Prop} {v:Value} {xs:List α} (h:IsS44 w0 W g f0 f1) (ho:d.R e W base ok v xs) (ht:e≠44):some g≠v.ownBlock:=by
 obtain ⟨A0,c0,hb,hg,hr0⟩:=h
 exact Kd.R_ne ho hb ht
theorem IsS44.lt {w0 W:World} {g:Nat} {f0:List Int} {f1:Int} (h:IsS44 w0 W g f0 f1):g<W.heap.size:=by
 obtain ⟨A0,c0,hb,hg,hr0⟩:=h
 exact blk_lt hb
theorem IsS44.ge {w0 W:World} {g:Nat} {f0:List Int} {f1:Int} (h:IsS44 w0 W g f0 f1):w0.heap.size≤g:=by
 obtain ⟨A0,c0,hb,hg,hr0⟩:=h
 exact hg
theorem IsS44.far {w0 W:World} {g:Nat} {f0:List Int} {f1:Int} {p:Addr} (h:IsS44 w0 W g f0 f1) (hne:g≠p.block) (u:Value):IsS44 w0 (W.setCell p u) g f0 f1:=by
 obtain ⟨A0,c0,hb,hg,hr0⟩:=h
 exact ⟨A0,c0,blk_far hb hne u,hg,hr0⟩
theorem cellS44_0 {W:World} {g:Nat} {A0:Option Addr} {c0:Nat} {f0:List Int} {f1:Int} (h:W.heap[g]? = some (.cells #[.slice A0 f0.length c0,.int .i64 f1] 44 (0,0))):W.cell? ⟨g,0,none⟩=some (.slice A0 f0.length c0):=(blk_cell h 0).trans rfl
theorem cellS44_1 {W:World} {g:Nat} {A0:Option Addr} {c0:Nat} {f0:List Int} {f1:Int} (h:W.heap[g]? = some (.cells #[.slice A0 f0.length c0,.int .i64 f1] 44 (0,0))):W.cell? ⟨g,1,none⟩=some (.int .i64 f1):=(blk_cell h 1).trans rfl
theorem IsS44.set_1 {w0 W:World} {g:Nat} {f0:List Int} {f1:Int} (h:IsS44 w0 W g f0 f1) (x:Int):IsS44 w0 (W.setCell ⟨g,1,none⟩ (.int .i64 x)) g f0 x:=by
 obtain ⟨A0,c0,hb,hg,hr0⟩:=h
 exact ⟨A0,c0,by simpa using blk_set hb 1 (.int .i64 x),hg,hr0⟩
theorem IsS44.new (w0 W:World) (A0:Option Addr) (c0:Nat) (f0:List Int) (f1:Int) (hB:Below w0.heap.size w0 W) (hr0:Kd.C (Kd.int .i64) w0 A0 f0.length f0):IsS44 w0 (W.alloc (.cells #[.slice A0 f0.length c0,.int .i64 f1] 44)) W.heap.size f0 f1:=⟨A0,c0,by simpa using heap_alloc_new W _,hB.size,hr0⟩
def Y4.f (s0_0:List Int) (s0_1:Int) (a1:Int):Option (Int×Int):=if (s0_0.length:Int)=0 then ((YL.f (wrap64 ((wrap64 (s0_1+1))*7919)) a1).bind fun t301=>(some (t301,wrap64 (s0_1+1)))) else (if 0≤(Int.tmod (wrap64 ((wrap64 (s0_1+1))-1)) (s0_0.length:Int)) then (if (Int.tmod (wrap64 ((wrap64 (s0_1+1))-1)) (s0_0.length:Int))<(s0_0.length:Int) then ((YL.f (rd s0_0 (Int.tmod (wrap64 ((wrap64 (s0_1+1))-1)) (s0_0.length:Int))) 1073741824).bind fun t303=>((YL.f (wrap64 (t303+(wrap64 ((wrap64 (Int.tdiv (wrap64 ((wrap64 (s0_1+1))-1)) (s0_0.length:Int)))*(wrap64 (7919+(Int.tmod (wrap64 ((wrap64 (s0_1+1))-1)) (s0_0.length:Int)))))))) a1).bind fun t304=>(some (t304,wrap64 (s0_1+1))))) else (none)) else (none))
theorem Y4.calls (g:Nat) (s0_0:List Int) (s0_1:Int) (a1:Int) (r1:Int) (r2:Int) (w0 w:World) (hI:IsS44 w0 w g s0_0 s0_1) (hB:Below w0.heap.size w0 w) (h:Y4.f s0_0 s0_1 a1=some (r1,r2)) :
  Calls Tryz.prog 33 #[.pointer (some ⟨g,0,none⟩),.int .i64 a1] w fun e w'=>e = .returned (.int .i64 r1)∧IsS44 w0 w' g s0_0 r2∧Below w0.heap.size w0 w'∧KeepBut w w' g none:=by
 have HI0:=aZ hI
 have HK:=aZ (KeepBut.refl w g none)
 have HL:=aZ hB.size
 clear hI
 have HW0:=aZ hB.size
 have HB:=aZ hB
 clear hB
 have H:=h
 unfold Y4.f at H
 clear h
 by_cases c3:(s0_0.length:Int)=0
 case neg=>
  rw [if_neg c3] at H
  obtain ⟨c3b0,c3b1⟩:=zX c3
  have c3b2:¬ (s0_0=[]):=fun h_=>c3 (by rw [h_];rfl)
  obtain ⟨ji6,hji6⟩:∃ j_:Int,(Int.tmod (wrap64 ((wrap64 (s0_1+1))-1)) (s0_0.length:Int))=j_:=⟨_,rfl⟩
  (first|rw [hji6] at H|simp only [hji6] at H)
  by_cases c7:0≤(ji6)
  case neg=>
   rw [if_neg c7] at H
   cases H
  rw [if_pos c7] at H
  have c7b0:=decide_eq_true c7
  clear c7
  by_cases c8:(ji6)<(s0_0.length:Int)
  case neg=>
   rw [if_neg c8] at H
   cases H
  rw [if_pos c8] at H
  have c8b0:=decide_eq_true c8
  clear c8
  obtain ⟨t303,A9,H⟩:=zB H
  obtain ⟨t304,A10,H⟩:=zB H
  obtain ⟨rfl,rfl⟩:=zo2 H
  obtain ⟨ASz11_0,cSz11_0,HGz11,hgz11,HSz11_0⟩:=HI0.out
  have hcz11_0:=cellS44_0 HGz11
  have hcz11_1:=cellS44_1 HGz11
  have hfz11_1:=blk_frozen HGz11 1
  clear HGz11 hgz11
  have p302:0≤((ji6):Int):=zd
  have q302:(ji6)<(s0_0.length:Int):=zd
  obtain ⟨ad302,e302,hx302_0⟩:=Kd.at_int HSz11_0 (ji6) p302 q302
  cases e302
  have hn302_0:ad302.block≠g:=Nat.ne_of_lt (Nat.lt_of_lt_of_le (by have:=World.block_lt_of_cell? _ _ hx302_0;first|rwa [add_block] at this|exact this) (IsS44.ge HI0.out))
  replace hx302_0:=pw_cell_below HB.out hx302_0
  replace hx302_0:=(cell_far (p:=⟨g,1,none⟩) (by first|(rw [add_block];exact hn302_0)|(show (Addr.add _ _).block≠_;rw [add_block];exact hn302_0)|exact hn302_0) (.int .i64 (wrap64 (s0_1+1)))).trans hx302_0
  (try have hy302_0:=fun (n_:Nat)=>(show (((w.drewN n_).setCell ⟨g,1,none⟩ (.int .i64 (wrap64 (s0_1+1))))).cell? _=some _ from hx302_0))
  clear hn302_0
  replace p302:=eq_true p302
  replace q302:=eq_true q302
  go_enter func33,ntmps33
  go_wp2_with (first|(go_at_call 91;(with_reducible refine (YL.calls (rd s0_0 (ji6)) 1073741824 t303 _ A9.out).mono ?_);rintro e w' ⟨rfl,⟨nd,rfl⟩⟩;(try first|exact ⟨rfl,_,World.drewN_drewN _ _ _⟩|exact ⟨rfl,_,Eq.trans (World.drewN_drewN _ _ _) (congrArg (World.drewN _) (Nat.add_assoc _ _ _))⟩))|(go_at_call 91;(with_reducible refine (YL.calls (wrap64 (t303+(wrap64 ((wrap64 (Int.tdiv (wrap64 ((wrap64 (s0_1+1))-1)) (s0_0.length:Int)))*(wrap64 (7919+(ji6))))))) a1 t304 _ A10.out).mono ?_);rintro e w' ⟨rfl,⟨nd,rfl⟩⟩;(try first|exact ⟨rfl,_,World.drewN_drewN _ _ _⟩|exact ⟨rfl,_,Eq.trans (World.drewN_drewN _ _ _) (congrArg (World.drewN _) (Nat.add_assoc _ _ _))⟩)))
  repeat (go_quiet (first|(go_at_call 91;(with_reducible refine (YL.calls (rd s0_0 (ji6)) 1073741824 t303 _ A9.out).mono ?_);rintro e w' ⟨rfl,⟨nd,rfl⟩⟩;(try first|exact ⟨rfl,_,World.drewN_drewN _ _ _⟩|exact ⟨rfl,_,Eq.trans (World.drewN_drewN _ _ _) (congrArg (World.drewN _) (Nat.add_assoc _ _ _))⟩))|(go_at_call 91;(with_reducible refine (YL.calls (wrap64 (t303+(wrap64 ((wrap64 (Int.tdiv (wrap64 ((wrap64 (s0_1+1))-1)) (s0_0.length:Int)))*(wrap64 (7919+(ji6))))))) a1 t304 _ A10.out).mono ?_);rintro e w' ⟨rfl,⟨nd,rfl⟩⟩;(try first|exact ⟨rfl,_,World.drewN_drewN _ _ _⟩|exact ⟨rfl,_,Eq.trans (World.drewN_drewN _ _ _) (congrArg (World.drewN _) (Nat.add_assoc _ _ _))⟩)));try go_wp2_with (first|(go_at_call 91;(with_reducible refine (YL.calls (rd s0_0 (ji6)) 1073741824 t303 _ A9.out).mono ?_);rintro e w' ⟨rfl,⟨nd,rfl⟩⟩;(try first|exact ⟨rfl,_,World.drewN_drewN _ _ _⟩|exact ⟨rfl,_,Eq.trans (World.drewN_drewN _ _ _) (congrArg (World.drewN _) (Nat.add_assoc _ _ _))⟩))|(go_at_call 91;(with_reducible refine (YL.calls (wrap64 (t303+(wrap64 ((wrap64 (Int.tdiv (wrap64 ((wrap64 (s0_1+1))-1)) (s0_0.length:Int)))*(wrap64 (7919+(ji6))))))) a1 t304 _ A10.out).mono ?_);rintro e w' ⟨rfl,⟨nd,rfl⟩⟩;(try first|exact ⟨rfl,_,World.drewN_drewN _ _ _⟩|exact ⟨rfl,_,Eq.trans (World.drewN_drewN _ _ _) (congrArg (World.drewN _) (Nat.add_assoc _ _ _))⟩))))
  go_ret
  exact ⟨by first|rfl|(simp [errW_none,errW_some] <;> rfl)|(simp only [← hji6];first|rfl|(simp [errW_none,errW_some] <;> rfl))|(simp [*,errW_none,errW_some] <;> rfl),zi HI0,bw,kk⟩
 rw [if_pos c3] at H
 obtain ⟨c3b0,c3b1⟩:=zY c3
 clear c3
 obtain ⟨t301,A4,H⟩:=zB H
 obtain ⟨rfl,rfl⟩:=zo2 H
 obtain ⟨ASz5_0,cSz5_0,HGz5,hgz5,HSz5_0⟩:=HI0.out
 have hcz5_0:=cellS44_0 HGz5
 have hcz5_1:=cellS44_1 HGz5
 have hfz5_1:=blk_frozen HGz5 1
 clear HGz5 hgz5
 go_enter func33,ntmps33
 go_wp2_with (first|(go_at_call 91;(with_reducible refine (YL.calls (wrap64 ((wrap64 (s0_1+1))*7919)) a1 t301 _ A4.out).mono ?_);rintro e w' ⟨rfl,⟨nd,rfl⟩⟩;(try first|exact ⟨rfl,_,World.drewN_drewN _ _ _⟩|exact ⟨rfl,_,Eq.trans (World.drewN_drewN _ _ _) (congrArg (World.drewN _) (Nat.add_assoc _ _ _))⟩)))
 repeat (go_quiet (first|(go_at_call 91;(with_reducible refine (YL.calls (wrap64 ((wrap64 (s0_1+1))*7919)) a1 t301 _ A4.out).mono ?_);rintro e w' ⟨rfl,⟨nd,rfl⟩⟩;(try first|exact ⟨rfl,_,World.drewN_drewN _ _ _⟩|exact ⟨rfl,_,Eq.trans (World.drewN_drewN _ _ _) (congrArg (World.drewN _) (Nat.add_assoc _ _ _))⟩)));try go_wp2_with (first|(go_at_call 91;(with_reducible refine (YL.calls (wrap64 ((wrap64 (s0_1+1))*7919)) a1 t301 _ A4.out).mono ?_);rintro e w' ⟨rfl,⟨nd,rfl⟩⟩;(try first|exact ⟨rfl,_,World.drewN_drewN _ _ _⟩|exact ⟨rfl,_,Eq.trans (World.drewN_drewN _ _ _) (congrArg (World.drewN _) (Nat.add_assoc _ _ _))⟩))))
 go_ret
 exact ⟨ze,zi HI0,bw,kk⟩
def Yc.f (s0_0:List Int) (s0_1:Int) (a1:Int) (a2:Int):Option (Int×Int):=if a2<a1 then (some (a1,s0_1)) else ((Y4.f s0_0 s0_1 (wrap64 ((wrap64 (a2-a1))+1))).bind fun bt305=>(some (wrap64 (a1+bt305.1),bt305.2)))
theorem Yc.calls (g:Nat) (s0_0:List Int) (s0_1:Int) (a1:Int) (a2:Int) (r1:Int) (r2:Int) (w0 w:World) (hI:IsS44 w0 w g s0_0 s0_1) (hB:Below w0.heap.size w0 w) (h:Yc.f s0_0 s0_1 a1 a2=some (r1,r2)) :
  Calls Tryz.prog 37 #[.pointer (some ⟨g,0,none⟩),.int .i64 a1,.int .i64 a2] w fun e w'=>e = .returned (.int .i64 r1)∧IsS44 w0 w' g s0_0 r2∧Below w0.heap.size w0 w'∧KeepBut w w' g none:=by
 have HI0:=aZ hI
 have HK:=aZ (KeepBut.refl w g none)
 have HL:=aZ hB.size
 clear hI
 have HW0:=aZ hB.size
 have HB:=aZ hB
 clear hB
 have H:=h
 unfold Yc.f at H
 clear h
 by_cases c4:a2<a1
 case neg=>
  rw [if_neg c4] at H
  have c4b0:=decide_eq_false c4
  clear c4
  obtain ⟨⟨t305,t306⟩,A5,H⟩:=zB H
  (try dsimp only at H)
  obtain ⟨rfl,rfl⟩:=zo2 H
  go_enter func37,ntmps37
  go_wp2_with (first|(refine zg (some 17) func33 #[.pointer (some ⟨g,0,none⟩),.int .i64 (wrap64 ((wrap64 (a2-a1))+1))] ?_;(with_reducible refine (Y4.calls g s0_0 s0_1 (wrap64 ((wrap64 (a2-a1))+1)) t305 t306 w0 _ (zi HI0) bw A5.out).mono ?_);rintro e w6 ⟨rfl,hi,hb,hk⟩;refine ⟨_,rfl,?_⟩;replace HK:=sT hk;replace HB:=aZ (hb);replace HI0:=aZ (hi);clear hb hk hi))
  go_ret
  exact ⟨ze,zi HI0,bw,kk⟩
 rw [if_pos c4] at H
 have c4b0:=decide_eq_true c4
 clear c4
 obtain ⟨rfl,rfl⟩:=zo2 H
 go_enter func37,ntmps37
 go_wp2
 go_ret
 exact ⟨ze,zi HI0,bw,kk⟩
def YV.f (s0_0:List Int) (s0_1:Int) (l1:List Int):Option (Int×Int):=(Y4.f s0_0 s0_1 (l1.length:Int)).bind fun bt307=>(if 0≤bt307.1 then (if bt307.1<(l1.length:Int) then (some (rd l1 bt307.1,bt307.2)) else (none)) else (none))
theorem YV.calls (g:Nat) (s0_0:List Int) (s0_1:Int) (A1:Option Addr) (c1:Nat) (l1:List Int) (r1:Int) (r2:Int) (w0 w:World) (hI:IsS44 w0 w g s0_0 s0_1) (hB:Below w0.heap.size w0 w) (hr1:Kd.C (Kd.int .i64) w A1 l1.length l1) (hc1:l1.length≤c1) (hf1:∀ ad,A1=some ad→0<l1.length→ad.block≠g) (h:YV.f s0_0 s0_1 l1=some (r1,r2)) :
  Calls Tryz.prog 122 #[.pointer (some ⟨g,0,none⟩),.slice A1 l1.length c1] w fun e w'=>e = .returned (.int .i64 r1)∧IsS44 w0 w' g s0_0 r2∧Below w0.heap.size w0 w'∧KeepBut w w' g none:=by
 have HR1:=aZ hr1
 have HC1:=aZ hc1
 clear hr1 hc1
 have HI0:=aZ hI
 have HK:=aZ (KeepBut.refl w g none)
 have HL:=aZ hB.size
 clear hI
 have HW0:=aZ hB.size
 have HB:=aZ hB
 clear hB
 have H:=h
 unfold YV.f at H
 clear h
 obtain ⟨⟨t307,t308⟩,A3,H⟩:=zB H
 (try dsimp only at H)
 by_cases c4:0≤t307
 case neg=>
  rw [if_neg c4] at H
  cases H
 rw [if_pos c4] at H
 have c4b0:=decide_eq_true c4
 clear c4
 by_cases c5:t307<(l1.length:Int)
 case neg=>
  rw [if_neg c5] at H
  cases H
 rw [if_pos c5] at H
 have c5b0:=decide_eq_true c5
 clear c5
 obtain ⟨rfl,rfl⟩:=zo2 H
 go_enter func122,ntmps122
 go_wp2_with (first|(refine zg (some 9) func33 #[.pointer (some ⟨g,0,none⟩),.int .i64 (l1.length:Int)] ?_;(with_reducible refine (Y4.calls g s0_0 s0_1 (l1.length:Int) t307 t308 w0 _ (zi HI0) bw A3.out).mono ?_);rintro e w6 ⟨rfl,hi,hb,hk⟩;refine ⟨_,rfl,?_⟩;replace HK:=sT hk;replace HB:=aZ (hb);replace HI0:=aZ (hi);clear hb hk hi;have p309:0≤(t307:Int):=zd;have q309:t307<(l1.length:Int):=zd;obtain ⟨ad309,e309,hx309_0⟩:=Kd.at_int HR1.out t307 p309 q309;cases e309;replace hx309_0:=keep_cell HK.out hx309_0 (by first|(rw [add_block];exact hf1 _ rfl (by omega))|exact hf1 _ rfl (by omega)|exact hf1 ad309 rfl (by omega));replace p309:=eq_true p309;replace q309:=eq_true q309))
 go_ret
 exact ⟨ze,zi HI0,bw,kk⟩
def YZ.f (s0_0:List Int) (s0_1:Int):Option (Int×Int):=(Y4.f s0_0 s0_1 6).bind fun bt310=>(if bt310.1=0 then ((Y4.f s0_0 bt310.2 3).bind fun bt312=>(some (wrap64 ((-2147483648)+bt312.1),bt312.2))) else (if bt310.1=1 then ((Y4.f s0_0 bt310.2 3).bind fun bt314=>(some (wrap64 (2147483647-bt314.1),bt314.2))) else (if bt310.1=2 then ((Y4.f s0_0 bt310.2 1073741824).bind fun bt316=>((Y4.f s0_0 bt316.2 4).bind fun bt318=>(some (wrap64 ((wrap64 ((wrap64 (bt316.1*4))+bt318.1))+(-2147483648)),bt318.2)))) else ((Yc.f s0_0 bt310.2 (-9) 9).bind fun bt320=>(some (bt320.1,bt320.2))))))
theorem YZ.calls (g:Nat) (s0_0:List Int) (s0_1:Int) (r1:Int) (r2:Int) (w0 w:World) (hI:IsS44 w0 w g s0_0 s0_1) (hB:Below w0.heap.size w0 w) (h:YZ.f s0_0 s0_1=some (r1,r2)) :
  Calls Tryz.prog 123 #[.pointer (some ⟨g,0,none⟩)] w fun e w'=>e = .returned (.int .i64 r1)∧IsS44 w0 w' g s0_0 r2∧Below w0.heap.size w0 w'∧KeepBut w w' g none:=by
 have HI0:=aZ hI
 have HK:=aZ (KeepBut.refl w g none)
 have HL:=aZ hB.size
 clear hI
 have HW0:=aZ hB.size
 have HB:=aZ hB
 clear hB
 have H:=h
 unfold YZ.f at H
 clear h
 obtain ⟨⟨t310,t311⟩,A2,H⟩:=zB H
 (try dsimp only at H)
 by_cases c3:t310=0
 case neg=>
  rw [if_neg c3] at H
  obtain ⟨c3b0,c3b1⟩:=zX c3
  by_cases c7:t310=1
  case neg=>
   rw [if_neg c7] at H
   obtain ⟨c7b0,c7b1⟩:=zX c7
   by_cases c11:t310=2
   case neg=>
    rw [if_neg c11] at H
    obtain ⟨c11b0,c11b1⟩:=zX c11
    obtain ⟨⟨t320,t321⟩,A17,H⟩:=zB H
    (try dsimp only at H)
    obtain ⟨rfl,rfl⟩:=zo2 H
    go_enter func123,ntmps123
    go_wp2_with (first|(refine zg (some 4) func33 #[.pointer (some ⟨g,0,none⟩),.int .i64 6] ?_;(with_reducible refine (Y4.calls g s0_0 s0_1 6 t310 t311 w0 _ (zi HI0) bw A2.out).mono ?_);rintro e w18 ⟨rfl,hi,hb,hk⟩;refine ⟨_,rfl,?_⟩;replace HK:=sT hk;replace HB:=aZ (hb);replace HI0:=aZ (hi);clear hb hk hi)|(refine zg (some 25) func37 #[.pointer (some ⟨g,0,none⟩),.int .i64 (-9),.int .i64 9] ?_;(with_reducible refine (Yc.calls g s0_0 t311 (-9) 9 t320 t321 w0 _ (zi HI0) bw A17.out).mono ?_);rintro e w19 ⟨rfl,hi,hb,hk⟩;refine ⟨_,rfl,?_⟩;replace HK:=sT hk;replace HB:=aZ (hb);replace HI0:=aZ (hi);clear hb hk hi))
    go_ret
    exact ⟨ze,zi HI0,bw,kk⟩
   rw [if_pos c11] at H
   obtain ⟨c11b0,c11b1⟩:=zY c11
   clear c11
   obtain ⟨⟨t316,t317⟩,A12,H⟩:=zB H
   (try dsimp only at H)
   obtain ⟨⟨t318,t319⟩,A13,H⟩:=zB H
   (try dsimp only at H)
   obtain ⟨rfl,rfl⟩:=zo2 H
   go_enter func123,ntmps123
   go_wp2_with (first|(refine zg (some 4) func33 #[.pointer (some ⟨g,0,none⟩),.int .i64 6] ?_;(with_reducible refine (Y4.calls g s0_0 s0_1 6 t310 t311 w0 _ (zi HI0) bw A2.out).mono ?_);rintro e w14 ⟨rfl,hi,hb,hk⟩;refine ⟨_,rfl,?_⟩;replace HK:=sT hk;replace HB:=aZ (hb);replace HI0:=aZ (hi);clear hb hk hi)|(refine zg (some 18) func33 #[.pointer (some ⟨g,0,none⟩),.int .i64 1073741824] ?_;(with_reducible refine (Y4.calls g s0_0 t311 1073741824 t316 t317 w0 _ (zi HI0) bw A12.out).mono ?_);rintro e w15 ⟨rfl,hi,hb,hk⟩;refine ⟨_,rfl,?_⟩;replace HK:=sT hk;replace HB:=aZ (hb);replace HI0:=aZ (hi);clear hb hk hi)|(refine zg (some 21) func33 #[.pointer (some ⟨g,0,none⟩),.int .i64 4] ?_;(with_reducible refine (Y4.calls g s0_0 t317 4 t318 t319 w0 _ (zi HI0) bw A13.out).mono ?_);rintro e w16 ⟨rfl,hi,hb,hk⟩;refine ⟨_,rfl,?_⟩;replace HK:=sT hk;replace HB:=aZ (hb);replace HI0:=aZ (hi);clear hb hk hi))
   go_ret
   exact ⟨ze,zi HI0,bw,kk⟩
  rw [if_pos c7] at H
  obtain ⟨c7b0,c7b1⟩:=zY c7
  clear c7
  obtain ⟨⟨t314,t315⟩,A8,H⟩:=zB H
  (try dsimp only at H)
  obtain ⟨rfl,rfl⟩:=zo2 H
  go_enter func123,ntmps123
  go_wp2_with (first|(refine zg (some 4) func33 #[.pointer (some ⟨g,0,none⟩),.int .i64 6] ?_;(with_reducible refine (Y4.calls g s0_0 s0_1 6 t310 t311 w0 _ (zi HI0) bw A2.out).mono ?_);rintro e w9 ⟨rfl,hi,hb,hk⟩;refine ⟨_,rfl,?_⟩;replace HK:=sT hk;replace HB:=aZ (hb);replace HI0:=aZ (hi);clear hb hk hi)|(refine zg (some 13) func33 #[.pointer (some ⟨g,0,none⟩),.int .i64 3] ?_;(with_reducible refine (Y4.calls g s0_0 t311 3 t314 t315 w0 _ (zi HI0) bw A8.out).mono ?_);rintro e w10 ⟨rfl,hi,hb,hk⟩;refine ⟨_,rfl,?_⟩;replace HK:=sT hk;replace HB:=aZ (hb);replace HI0:=aZ (hi);clear hb hk hi))
  go_ret
  exact ⟨ze,zi HI0,bw,kk⟩
 rw [if_pos c3] at H
 obtain ⟨c3b0,c3b1⟩:=zY c3
 clear c3
 obtain ⟨⟨t312,t313⟩,A4,H⟩:=zB H
 (try dsimp only at H)
 obtain ⟨rfl,rfl⟩:=zo2 H
 go_enter func123,ntmps123
 go_wp2_with (first|(refine zg (some 4) func33 #[.pointer (some ⟨g,0,none⟩),.int .i64 6] ?_;(with_reducible refine (Y4.calls g s0_0 s0_1 6 t310 t311 w0 _ (zi HI0) bw A2.out).mono ?_);rintro e w5 ⟨rfl,hi,hb,hk⟩;refine ⟨_,rfl,?_⟩;replace HK:=sT hk;replace HB:=aZ (hb);replace HI0:=aZ (hi);clear hb hk hi)|(refine zg (some 8) func33 #[.pointer (some ⟨g,0,none⟩),.int .i64 3] ?_;(with_reducible refine (Y4.calls g s0_0 t311 3 t312 t313 w0 _ (zi HI0) bw A4.out).mono ?_);rintro e w6 ⟨rfl,hi,hb,hk⟩;refine ⟨_,rfl,?_⟩;replace HK:=sT hk;replace HB:=aZ (hb);replace HI0:=aZ (hi);clear hb hk hi))
 go_ret
 exact ⟨ze,zi HI0,bw,kk⟩
def Yq.f (s0_0:List Int) (s0_1:Int) (a1:Int):Option (Bool×Int):=(Y4.f s0_0 s0_1 a1).bind fun bt322=>(some ((bt322.1==0),bt322.2))
theorem Yq.calls (g:Nat) (s0_0:List Int) (s0_1:Int) (a1:Int) (r1:Bool) (r2:Int) (w0 w:World) (hI:IsS44 w0 w g s0_0 s0_1) (hB:Below w0.heap.size w0 w) (h:Yq.f s0_0 s0_1 a1=some (r1,r2)) :
  Calls Tryz.prog 78 #[.pointer (some ⟨g,0,none⟩),.int .i64 a1] w fun e w'=>e = .returned (.bool r1)∧IsS44 w0 w' g s0_0 r2∧Below w0.heap.size w0 w'∧KeepBut w w' g none:=by
 have HI0:=aZ hI
 have HK:=aZ (KeepBut.refl w g none)
 have HL:=aZ hB.size
 clear hI
 have HW0:=aZ hB.size
 have HB:=aZ hB
 clear hB
 have H:=h
 unfold Yq.f at H
 clear h
 obtain ⟨⟨t322,t323⟩,A3,H⟩:=zB H
 (try dsimp only at H)
 obtain ⟨rfl,rfl⟩:=zo2 H
 go_enter func78,ntmps78
 go_wp2_with (first|(refine zg (some 7) func33 #[.pointer (some ⟨g,0,none⟩),.int .i64 a1] ?_;(with_reducible refine (Y4.calls g s0_0 s0_1 a1 t322 t323 w0 _ (zi HI0) bw A3.out).mono ?_);rintro e w4 ⟨rfl,hi,hb,hk⟩;refine ⟨_,rfl,?_⟩;replace HK:=sT hk;replace HB:=aZ (hb);replace HI0:=aZ (hi);clear hb hk hi))
 go_ret
 exact ⟨ze,zi HI0,bw,kk⟩
section
def YP.f (a0:Int):Option ByteArray:=if -9223372036854775808≤a0∧a0≤9223372036854775807 then some ⟨(Lib.itoa a0).toArray⟩ else none
theorem YP.calls (a0:Int) (r:ByteArray) (w:World) (hG:Tryz.Gl w) (h:YP.f a0=some r) :
  Calls Tryz.prog 138 #[.int .i64 a0] w fun e w'=>e = .returned (.string r)∧Below w.heap.size w w':=by
 unfold YP.f at h
 by_cases c:-9223372036854775808≤a0∧a0≤9223372036854775807
 case neg=>
  rw [if_neg c] at h;cases h
 rw [if_pos c] at h
 obtain rfl:=Option.some.inj h
 refine (Tryz.strconv_Itoa a0 c.1 c.2 w hG.1).mono ?_
 rintro e w' ⟨rfl,k,os,rfl⟩
 exact ⟨rfl,Tryz.grow_below w k os⟩
end
def Yi.l0:Nat→List Int→Int→Int→List Int→Int→Option (ByteArray×ByteArray×Int)
 | 0,_,_,_,_,_=>none
 | k+1,x3,x7,x8,x1000,x1001=>if x8<x7 then (if x3.length<140737488355328 then (Yi.l0 k (x3++[48]) x7 (wrap64 (x8+1)) x1000 x1001) else (none)) else (if x3.length<140737488355328 then ((some (x3++[49]:List Int)).bind fun y333=>((Yq.f x1000 x1001 2).bind fun bt337=>(if bt337.1=true then ((Yc.f x1000 bt337.2 0 20).bind fun bt339=>(if 0≤bt339.1 then ((YP.f (shl .i64 1 bt339.1)).bind fun t341=>((Yq.f x1000 bt339.2 2).bind fun bt342=>(if bt342.1=true then (if 1+(strOfNums y333).size≤9223372036854775807 then (some ((⟨#[45]⟩:ByteArray)++(strOfNums y333),t341,bt342.2)) else (none)) else (some (strOfNums y333,t341,bt342.2))))) else (none))) else ((Yq.f x1000 bt337.2 2).bind fun bt344=>(if bt344.1=true then (if 1+(strOfNums y333).size≤9223372036854775807 then (some ((⟨#[45]⟩:ByteArray)++(strOfNums y333),(⟨#[49]⟩:ByteArray),bt344.2)) else (none)) else (some (strOfNums y333,(⟨#[49]⟩:ByteArray),bt344.2))))))) else (none))
def Yi.f (k:Nat) (s0_0:List Int) (s0_1:Int):Option (ByteArray×ByteArray×Int):=(Yc.f s0_0 s0_1 1 60).bind fun bt328=>(Yi.l0 k (([49]:List Int)) bt328.1 0 s0_0 bt328.2)
theorem Yi.calls (k:Nat) (g:Nat) (s0_0:List Int) (s0_1:Int) (r1:ByteArray) (r2:ByteArray) (r3:Int) (w0 w:World) (hI:IsS44 w0 w g s0_0 s0_1) (hB:Below w0.heap.size w0 w) (hG:Tryz.Gl w0) (h:Yi.f k s0_0 s0_1=some (r1,r2,r3)) :
  Calls Tryz.prog 124 #[.pointer (some ⟨g,0,none⟩)] w fun e w'=>e = .returned (.agg #[.string r1,.string r2])∧IsS44 w0 w' g s0_0 r3∧Below w0.heap.size w0 w'∧KeepBut w w' g none:=by
 have hu61:=underlying61
 have HG:=aZ hG
 clear hG
 have HI0:=aZ hI
 have HK:=aZ (KeepBut.refl w g none)
 have HL:=aZ hB.size
 clear hI
 have HW0:=aZ hB.size
 have HB:=aZ hB
 clear hB
 have H:=h
 unfold Yi.f at H
 clear h
 obtain ⟨y325,hy325⟩:∃ y_:List Int,y_=(([49]:List Int)):=⟨_,rfl⟩
 replace H:((Yc.f s0_0 s0_1 1 60).bind fun bt328=>(Yi.l0 k y325 bt328.1 0 s0_0 bt328.2))=some (r1,r2,r3):=zy hy325 H
 have Ny325:=aZ hy325
 clear hy325
 obtain ⟨⟨t328,t329⟩,A2,H⟩:=zB H
 (try dsimp only at H)
 have H':=aZ H
 clear H
 go_enter func124,ntmps124
 go_wp2_with (first|(refine box_ev 2 #[.string ⟨#[]⟩,.string ⟨#[]⟩] 61 ?_;intro gb324 hg w3 hbox hb;replace HB:=sB hb;have BK324:=aZ hbox;have GW324:=sE hg;have GE324:=zW HW0 hg;replace HK:=sU hb;have NB0_324:=aZ ((by rw [hg];exact Nat.ne_of_lt (IsS44.lt (show IsS44 w0 _ g s0_0 s0_1 from zi HI0)):g≠gb324));have NB324_0:=aZ ((by rw [hg];exact Nat.ne_of_gt (IsS44.lt (show IsS44 w0 _ g s0_0 s0_1 from zi HI0)):gb324≠g));replace HI0:=aZ (IsS44.below (zi HI0) hb);clear hb hbox hg)|((with_reducible refine gate_dst (N:=5) rfl ?_);refine Kd.R_lit (Kd.int .u8) _ 5 ?hg (N:=5) ?hd (xs:=([49]:List Int)) (inner:=[.int .u8 49]) (ok:=fun _=>True) (okp:=fun _=>True) ?hr ?hp (fun _ hk=>hk) trivial (Below.refl _ _) (Nat.le_refl _) (by simp) ?_;(case hd=>rfl);(case hg=>rfl);(case hr=>first|(go_simp;done)|(go_simp;rfl));(case hp=>exact (Reps.one (show Kd.M (Kd.int .u8) _ _ _ 49 [.int .u8 49] from rfl) (Reps.none _ _)));intro v326 w4 ho5 hb hg_ hnew_;clear hg_ hnew_;(first|rw [← Ny325.out] at ho5|(simp only [Int.reduceToNat] at ho5;rw [← Ny325.out] at ho5));have HO327:=aZ (Kd.R_lower ho5 ks);replace HI0:=aZ (IsS44.below (zi HI0) hb);replace BK324:=sK BK324 hb;replace HK:=sU hb;replace HB:=sB hb;clear hb ho5)|(refine zg (some 7) func37 #[.pointer (some ⟨g,0,none⟩),.int .i64 1,.int .i64 60] ?_;(with_reducible refine (Yc.calls g s0_0 s0_1 1 60 t328 t329 w0 _ (zi HI0) bw A2.out).mono ?_);rintro e w6 ⟨rfl,hi,hb,hk⟩;refine ⟨_,rfl,?_⟩;replace BK324:=kB hk NB324_0 BK324;replace HO327:=aZ (Kd.R_mono (Kd.R_keep (IsS44.apart (show IsS44 w0 _ g s0_0 s0_1 from zi HI0) (zR HO327) (by decide)) hk (fun _ h=>h.2)) (fun _ h=>h.1));replace HK:=sT hk;replace HB:=aZ (hb);replace HI0:=aZ (hi);clear hb hk hi))
 go_loopg [3,8] k (fun kq v3 v8 w'=>∃ (x3_1:List Int) (x8_1:Int),v8 = .int .i64 x8_1∧Aside0 (Yi.l0 kq x3_1 t328 x8_1 s0_0 t329=some (r1,r2,r3))∧Aside0 (kq≤k)∧Aside0 (Kd.R (Kd.int .u8) 5 w' w.heap.size (fun _=>True) v3 x3_1)∧Aside0 (w'.heap[gb324]? = some (.cells #[.string ⟨#[]⟩,.string ⟨#[]⟩] 61 (0,0)))∧Aside0 (IsS44 w0 w' g s0_0 t329)∧Aside0 (KeepBut w w' g none)∧Aside0 (Below w0.heap.size w0 w'))
 case atStart=>exact ⟨(y325),(0),zs,H',⟨Nat.le_refl _⟩,⟨zR HO327⟩,⟨zb BK324⟩,⟨zi HI0⟩,⟨kk⟩,⟨bw⟩⟩
 case round =>
  clear H'
  try clear c1
  try clear c3
  obtain ⟨x3_1,x8_1,rfl,HA,HK1,HO_3,BK324,HI0,HK,HB⟩:=hrel
  cases gk with
  | zero=>exact absurd HA.out (by simp [Yi.l0])
  | succ k1 =>
   have H:=HA.out
   clear HA
   simp only [Yi.l0] at H
   by_cases c7:x8_1<t328
   case neg=>
    rw [if_neg c7] at H
    have c7b0:=decide_eq_false c7
    clear c7
    by_cases c10:x3_1.length<140737488355328
    case neg=>
     rw [if_neg c10] at H
     cases H
    rw [if_pos c10] at H
    have LMc10:=aZ c10
    clear c10
    obtain ⟨y333,hy333⟩:∃ y_:List Int,y_=(x3_1++[49]):=⟨_,rfl⟩
    replace H:((Yq.f s0_0 t329 2).bind fun bt337=>(if bt337.1=true then ((Yc.f s0_0 bt337.2 0 20).bind fun bt339=>(if 0≤bt339.1 then ((YP.f (shl .i64 1 bt339.1)).bind fun t341=>((Yq.f s0_0 bt339.2 2).bind fun bt342=>(if bt342.1=true then (if 1+(strOfNums y333).size≤9223372036854775807 then (some ((⟨#[45]⟩:ByteArray)++(strOfNums y333),t341,bt342.2)) else (none)) else (some (strOfNums y333,t341,bt342.2))))) else (none))) else ((Yq.f s0_0 bt337.2 2).bind fun bt344=>(if bt344.1=true then (if 1+(strOfNums y333).size≤9223372036854775807 then (some ((⟨#[45]⟩:ByteArray)++(strOfNums y333),(⟨#[49]⟩:ByteArray),bt344.2)) else (none)) else (some (strOfNums y333,(⟨#[49]⟩:ByteArray),bt344.2))))))=some (r1,r2,r3):=zy hy333 H
    have Ny333:=aZ hy333
    clear hy333
    obtain ⟨⟨t337,t338⟩,A11,H⟩:=zB H
    (try dsimp only at H)
    by_cases c12:t337=true
    case neg=>
     replace c12:=Bool.eq_false_iff.mpr c12
     subst c12
     replace H:=zU H
     obtain ⟨⟨t344,t345⟩,A48,H⟩:=zB H
     (try dsimp only at H)
     by_cases c49:t344=true
     case neg=>
      replace c49:=Bool.eq_false_iff.mpr c49
      subst c49
      replace H:=zU H
      obtain ⟨rfl,rfl,rfl⟩:=zo3 H
      go_wp2_with (first|((with_reducible refine gate_builtin (b:=.append) (xs:=#[.tmp 14,.tmp 15]) rfl ?_);at_builtin;refine Kd.R_append (Kd.int .u8) w.heap.size rfl (.tmp 14) (.tmp 15) 45 5 (.int .u8 0) 1 rfl underlying45 info5 rfl (by decide) (by omega) u3 x3_1 49 [.int .u8 49] (fun _=>True) (fun _=>False) rfl rfl ?aP (fun _ hk=>hk.elim) ?aF ?aO (Below.refl _ _) ?aS ?aL ?_;(case aP=>exact rfl);(case aF=>exact (fun _ _=>trivial));(case aO=>exact (zR HO_3));(case aS=>exact ks);(case aL=>have:=LMc10.out;omega);intro v334 w62 ho hb hg hat;rw [← Ny333.out] at ho;replace BK324:=aZ (blk_grown (g:=gb324) (o:=.cells #[.string ⟨#[]⟩,.string ⟨#[]⟩] 61 (0,0)) (zb BK324) hg (Kd.R_ne HO_3.out BK324.out (by decide)));replace HI0:=aZ (IsS44.grown (zi HI0) hg (IsS44.own_ne HI0.out HO_3.out (by decide)));replace HB:=aZ (below_weaken bw HL.out hb);replace HK:=aZ (KeepBut.trans kk (KeepBut.of_grown hg g) (Kd.R_base2 HO_3.out));have HO335:=aZ (ho);clear HO_3;clear ho hb hg hat;have hcv63:=own_string (P:=Tryz.prog) underlying45 underlying5 underlying9 (Kd.own_of_R HO335.out))|(refine box_ev 4 #[.string ⟨#[]⟩,.string ⟨#[]⟩] 61 ?_;intro gb336 hg w64 hbox hb;replace HO335:=yR HO335 hb;replace HB:=sB hb;have BK336:=aZ hbox;have GW336:=sE hg;have GE336:=zW HW0 hg;replace HK:=sU hb;obtain ⟨NB324_336,NB336_324,BK324⟩:=sX hg hb BK324;have NB0_336:=aZ ((by rw [hg];exact Nat.ne_of_lt (IsS44.lt (show IsS44 w0 _ g s0_0 t329 from zi HI0)):g≠gb336));have NB336_0:=aZ ((by rw [hg];exact Nat.ne_of_gt (IsS44.lt (show IsS44 w0 _ g s0_0 t329 from zi HI0)):gb336≠g));replace HI0:=aZ (IsS44.below (zi HI0) hb);clear hb hbox hg;have hnb65:=NB336_324.out;have hnc65:=NB324_336.out;have hnb66:=NB336_0.out;have hnc66:=NB0_336.out;obtain ⟨hcz67_0,hfz67_0⟩:=zc BK336 0 (.string ⟨#[]⟩) rfl;obtain ⟨hcz67_1,hfz67_1⟩:=zc BK336 1 (.string ⟨#[]⟩) rfl)|(refine zg (some 21) func78 #[.pointer (some ⟨g,0,none⟩),.int .i64 2] ?_;(with_reducible refine (Yq.calls g s0_0 t329 2 false t338 w0 _ (zi HI0) bw A11.out).mono ?_);rintro e w68 ⟨rfl,hi,hb,hk⟩;refine ⟨_,rfl,?_⟩;replace BK324:=aZ (KeepBut.blk hk (g':=gb324) (o:=.cells #[.string ⟨#[]⟩,.string ⟨#[]⟩] 61 (0,0)) (zq BK324) NB324_0.out (by simp));replace HO335:=aZ (Kd.R_mono (Kd.R_keep (IsS44.apart (show IsS44 w0 _ g s0_0 t329 from zi HI0) (by (with_reducible repeat (first|apply Kd.R_alloc|apply Kd.R_drewN|apply Kd.R_drew));exact (Kd.R_mono (Kd.R_far (p:=⟨gb336,1,none⟩) (Kd.R_far (p:=⟨gb336,0,none⟩) (Kd.R_types HO335.out BK336.out (by decide)) (fun _ hk=>hk.2) (.string (strOfNums y333))) (fun _ hk=>hk.2) (.string (⟨#[49]⟩:ByteArray))) (fun _ h_=>h_.1))) (by decide)) hk (fun _ h=>h.2)) (fun _ h=>h.1));replace BK336:=aZ (KeepBut.blk hk (g':=gb336) (o:=.cells #[.string (strOfNums y333),.string (⟨#[49]⟩:ByteArray)] 61 (0,0)) (zp BK336) NB336_0.out (by simp));replace HK:=sT hk;replace HB:=aZ (hb);replace HI0:=aZ (hi);clear hb hk hi)|(refine zg (some 28) func78 #[.pointer (some ⟨g,0,none⟩),.int .i64 2] ?_;(with_reducible refine (Yq.calls g s0_0 t338 2 false t345 w0 _ (zi HI0) bw A48.out).mono ?_);rintro e w69 ⟨rfl,hi,hb,hk⟩;refine ⟨_,rfl,?_⟩;replace BK324:=kB hk NB324_0 BK324;replace HO335:=aZ (Kd.R_mono (Kd.R_keep (IsS44.apart (show IsS44 w0 _ g s0_0 t338 from zi HI0) (zR HO335) (by decide)) hk (fun _ h=>h.2)) (fun _ h=>h.1));replace BK336:=kB hk NB336_0 BK336;replace HK:=sT hk;replace HB:=aZ (hb);replace HI0:=aZ (hi);clear hb hk hi;obtain ⟨hcz70_0,hfz70_0⟩:=zc BK336 0 (.string (strOfNums y333)) rfl;obtain ⟨hcz70_1,hfz70_1⟩:=zc BK336 1 (.string (⟨#[49]⟩:ByteArray)) rfl;have hnb71:=NB324_0.out;have hnc71:=NB0_324.out;obtain ⟨hcz72_0,hfz72_0⟩:=zc BK324 0 (.string ⟨#[]⟩) rfl;obtain ⟨hcz72_1,hfz72_1⟩:=zc BK324 1 (.string ⟨#[]⟩) rfl))
      refine bodyPost_ret (results_cell_row rfl _ _ gb324 61 #[.string (strOfNums y333),.string (⟨#[49]⟩:ByteArray)] (0,0) _ rfl (zp BK324) underlying61 rfl (by kernel_rfl)) rfl ?_
      exact ⟨ze,zi HI0,bw,kk⟩
     subst c49
     replace H:=zT H
     by_cases c50:1+(strOfNums y333).size≤9223372036854775807
     case neg=>
      rw [if_neg c50] at H
      cases H
     rw [if_pos c50] at H
     have c50b0:=eq_true c50
     have c50b1:=decide_eq_true c50
     try have c50b2:=eq_false (Nat.not_lt.2 c50)
     obtain ⟨rfl,rfl,rfl⟩:=zo3 H
     go_wp2_with (first|((with_reducible refine gate_builtin (b:=.append) (xs:=#[.tmp 14,.tmp 15]) rfl ?_);at_builtin;refine Kd.R_append (Kd.int .u8) w.heap.size rfl (.tmp 14) (.tmp 15) 45 5 (.int .u8 0) 1 rfl underlying45 info5 rfl (by decide) (by omega) u3 x3_1 49 [.int .u8 49] (fun _=>True) (fun _=>False) rfl rfl ?aP (fun _ hk=>hk.elim) ?aF ?aO (Below.refl _ _) ?aS ?aL ?_;(case aP=>exact rfl);(case aF=>exact (fun _ _=>trivial));(case aO=>exact (zR HO_3));(case aS=>exact ks);(case aL=>have:=LMc10.out;omega);intro v334 w51 ho hb hg hat;rw [← Ny333.out] at ho;replace BK324:=aZ (blk_grown (g:=gb324) (o:=.cells #[.string ⟨#[]⟩,.string ⟨#[]⟩] 61 (0,0)) (zb BK324) hg (Kd.R_ne HO_3.out BK324.out (by decide)));replace HI0:=aZ (IsS44.grown (zi HI0) hg (IsS44.own_ne HI0.out HO_3.out (by decide)));replace HB:=aZ (below_weaken bw HL.out hb);replace HK:=aZ (KeepBut.trans kk (KeepBut.of_grown hg g) (Kd.R_base2 HO_3.out));have HO335:=aZ (ho);clear HO_3;clear ho hb hg hat;have hcv52:=own_string (P:=Tryz.prog) underlying45 underlying5 underlying9 (Kd.own_of_R HO335.out))|(refine box_ev 4 #[.string ⟨#[]⟩,.string ⟨#[]⟩] 61 ?_;intro gb336 hg w53 hbox hb;replace HO335:=yR HO335 hb;replace HB:=sB hb;have BK336:=aZ hbox;have GW336:=sE hg;have GE336:=zW HW0 hg;replace HK:=sU hb;obtain ⟨NB324_336,NB336_324,BK324⟩:=sX hg hb BK324;have NB0_336:=aZ ((by rw [hg];exact Nat.ne_of_lt (IsS44.lt (show IsS44 w0 _ g s0_0 t329 from zi HI0)):g≠gb336));have NB336_0:=aZ ((by rw [hg];exact Nat.ne_of_gt (IsS44.lt (show IsS44 w0 _ g s0_0 t329 from zi HI0)):gb336≠g));replace HI0:=aZ (IsS44.below (zi HI0) hb);clear hb hbox hg;have hnb54:=NB336_324.out;have hnc54:=NB324_336.out;have hnb55:=NB336_0.out;have hnc55:=NB0_336.out;obtain ⟨hcz56_0,hfz56_0⟩:=zc BK336 0 (.string ⟨#[]⟩) rfl;obtain ⟨hcz56_1,hfz56_1⟩:=zc BK336 1 (.string ⟨#[]⟩) rfl)|(refine zg (some 21) func78 #[.pointer (some ⟨g,0,none⟩),.int .i64 2] ?_;(with_reducible refine (Yq.calls g s0_0 t329 2 false t338 w0 _ (zi HI0) bw A11.out).mono ?_);rintro e w57 ⟨rfl,hi,hb,hk⟩;refine ⟨_,rfl,?_⟩;replace BK324:=aZ (KeepBut.blk hk (g':=gb324) (o:=.cells #[.string ⟨#[]⟩,.string ⟨#[]⟩] 61 (0,0)) (zq BK324) NB324_0.out (by simp));replace HO335:=aZ (Kd.R_mono (Kd.R_keep (IsS44.apart (show IsS44 w0 _ g s0_0 t329 from zi HI0) (by (with_reducible repeat (first|apply Kd.R_alloc|apply Kd.R_drewN|apply Kd.R_drew));exact (Kd.R_mono (Kd.R_far (p:=⟨gb336,1,none⟩) (Kd.R_far (p:=⟨gb336,0,none⟩) (Kd.R_types HO335.out BK336.out (by decide)) (fun _ hk=>hk.2) (.string (strOfNums y333))) (fun _ hk=>hk.2) (.string (⟨#[49]⟩:ByteArray))) (fun _ h_=>h_.1))) (by decide)) hk (fun _ h=>h.2)) (fun _ h=>h.1));replace BK336:=aZ (KeepBut.blk hk (g':=gb336) (o:=.cells #[.string (strOfNums y333),.string (⟨#[49]⟩:ByteArray)] 61 (0,0)) (zp BK336) NB336_0.out (by simp));replace HK:=sT hk;replace HB:=aZ (hb);replace HI0:=aZ (hi);clear hb hk hi)|(refine zg (some 28) func78 #[.pointer (some ⟨g,0,none⟩),.int .i64 2] ?_;(with_reducible refine (Yq.calls g s0_0 t338 2 true t345 w0 _ (zi HI0) bw A48.out).mono ?_);rintro e w58 ⟨rfl,hi,hb,hk⟩;refine ⟨_,rfl,?_⟩;replace BK324:=kB hk NB324_0 BK324;replace HO335:=aZ (Kd.R_mono (Kd.R_keep (IsS44.apart (show IsS44 w0 _ g s0_0 t338 from zi HI0) (zR HO335) (by decide)) hk (fun _ h=>h.2)) (fun _ h=>h.1));replace BK336:=kB hk NB336_0 BK336;replace HK:=sT hk;replace HB:=aZ (hb);replace HI0:=aZ (hi);clear hb hk hi;obtain ⟨hcz59_0,hfz59_0⟩:=zc BK336 0 (.string (strOfNums y333)) rfl;obtain ⟨hcz59_1,hfz59_1⟩:=zc BK336 1 (.string (⟨#[49]⟩:ByteArray)) rfl;have hnb60:=NB324_0.out;have hnc60:=NB0_324.out;obtain ⟨hcz61_0,hfz61_0⟩:=zc BK324 0 (.string ⟨#[]⟩) rfl;obtain ⟨hcz61_1,hfz61_1⟩:=zc BK324 1 (.string ⟨#[]⟩) rfl))
     refine bodyPost_ret (results_cell_row rfl _ _ gb324 61 #[.string ((⟨#[45]⟩:ByteArray)++(strOfNums y333)),.string (⟨#[49]⟩:ByteArray)] (0,0) _ rfl (zq BK324) underlying61 rfl (by kernel_rfl)) rfl ?_
     exact ⟨ze,zi HI0,bw,kk⟩
    subst c12
    replace H:=zT H
    obtain ⟨⟨t339,t340⟩,A13,H⟩:=zB H
    (try dsimp only at H)
    by_cases c14:0≤t339
    case neg=>
     rw [if_neg c14] at H
     cases H
    rw [if_pos c14] at H
    have c14b0:=eq_true c14
    have c14b1:=decide_eq_true c14
    clear c14
    obtain ⟨ji15,hji15⟩:∃ j_:Int,(shl .i64 1 t339)=j_:=⟨_,rfl⟩
    (first|rw [hji15] at H|simp only [hji15] at H)
    (try rw [hji15] at A11)
    (try rw [hji15] at A13)
    have hji15_:(IntKind.i64.wrap (1*2^min t339.toNat 64))=ji15:=hji15
    have hji15z:t339≤64→(IntKind.i64.wrap (1*2^t339.toNat))=ji15:=shl_small hji15
    have hji15u:(IntKind.i64.wrap (2^min t339.toNat 64))=ji15:=by have h_:=hji15_;rw [Int.one_mul] at h_;exact h_
    have hji15v:t339≤64→(IntKind.i64.wrap (2^t339.toNat))=ji15:=fun hle_=>by have h_:=hji15z hle_;rw [Int.one_mul] at h_;exact h_
    have hji15yu:(wrap64 (2^min t339.toNat 64))=ji15:=(i64_w _).symm.trans hji15u
    have hji15xu:t339≤64→(wrap64 (2^t339.toNat))=ji15:=fun h_=>(i64_w _).symm.trans (hji15v h_)
    have hji15y:(wrap64 (1*2^min t339.toNat 64))=ji15:=(i64_w _).symm.trans hji15_
    have hji15x:t339≤64→(wrap64 (1*2^t339.toNat))=ji15:=fun h_=>(i64_w _).symm.trans (hji15z h_)
    obtain ⟨t341,A16,H⟩:=zB H
    obtain ⟨⟨t342,t343⟩,A17,H⟩:=zB H
    (try dsimp only at H)
    by_cases c18:t342=true
    case neg=>
     replace c18:=Bool.eq_false_iff.mpr c18
     subst c18
     replace H:=zU H
     obtain ⟨rfl,rfl,rfl⟩:=zo3 H
     go_wp2_with (first|((with_reducible refine gate_builtin (b:=.append) (xs:=#[.tmp 14,.tmp 15]) rfl ?_);at_builtin;refine Kd.R_append (Kd.int .u8) w.heap.size rfl (.tmp 14) (.tmp 15) 45 5 (.int .u8 0) 1 rfl underlying45 info5 rfl (by decide) (by omega) u3 x3_1 49 [.int .u8 49] (fun _=>True) (fun _=>False) rfl rfl ?aP (fun _ hk=>hk.elim) ?aF ?aO (Below.refl _ _) ?aS ?aL ?_;(case aP=>exact rfl);(case aF=>exact (fun _ _=>trivial));(case aO=>exact (zR HO_3));(case aS=>exact ks);(case aL=>have:=LMc10.out;omega);intro v334 w34 ho hb hg hat;rw [← Ny333.out] at ho;replace BK324:=aZ (blk_grown (g:=gb324) (o:=.cells #[.string ⟨#[]⟩,.string ⟨#[]⟩] 61 (0,0)) (zb BK324) hg (Kd.R_ne HO_3.out BK324.out (by decide)));replace HI0:=aZ (IsS44.grown (zi HI0) hg (IsS44.own_ne HI0.out HO_3.out (by decide)));replace HB:=aZ (below_weaken bw HL.out hb);replace HK:=aZ (KeepBut.trans kk (KeepBut.of_grown hg g) (Kd.R_base2 HO_3.out));have HO335:=aZ (ho);clear HO_3;clear ho hb hg hat;have hcv35:=own_string (P:=Tryz.prog) underlying45 underlying5 underlying9 (Kd.own_of_R HO335.out))|(refine box_ev 4 #[.string ⟨#[]⟩,.string ⟨#[]⟩] 61 ?_;intro gb336 hg w36 hbox hb;replace HO335:=yR HO335 hb;replace HB:=sB hb;have BK336:=aZ hbox;have GW336:=sE hg;have GE336:=zW HW0 hg;replace HK:=sU hb;obtain ⟨NB324_336,NB336_324,BK324⟩:=sX hg hb BK324;have NB0_336:=aZ ((by rw [hg];exact Nat.ne_of_lt (IsS44.lt (show IsS44 w0 _ g s0_0 t329 from zi HI0)):g≠gb336));have NB336_0:=aZ ((by rw [hg];exact Nat.ne_of_gt (IsS44.lt (show IsS44 w0 _ g s0_0 t329 from zi HI0)):gb336≠g));replace HI0:=aZ (IsS44.below (zi HI0) hb);clear hb hbox hg;have hnb37:=NB336_324.out;have hnc37:=NB324_336.out;have hnb38:=NB336_0.out;have hnc38:=NB0_336.out;obtain ⟨hcz39_0,hfz39_0⟩:=zc BK336 0 (.string ⟨#[]⟩) rfl;obtain ⟨hcz39_1,hfz39_1⟩:=zc BK336 1 (.string ⟨#[]⟩) rfl)|(refine zg (some 21) func78 #[.pointer (some ⟨g,0,none⟩),.int .i64 2] ?_;(with_reducible refine (Yq.calls g s0_0 t329 2 true t338 w0 _ (zi HI0) bw A11.out).mono ?_);rintro e w40 ⟨rfl,hi,hb,hk⟩;refine ⟨_,rfl,?_⟩;replace BK324:=aZ (KeepBut.blk hk (g':=gb324) (o:=.cells #[.string ⟨#[]⟩,.string ⟨#[]⟩] 61 (0,0)) (zq BK324) NB324_0.out (by simp));replace HO335:=aZ (Kd.R_mono (Kd.R_keep (IsS44.apart (show IsS44 w0 _ g s0_0 t329 from zi HI0) (by (with_reducible repeat (first|apply Kd.R_alloc|apply Kd.R_drewN|apply Kd.R_drew));exact (Kd.R_mono (Kd.R_far (p:=⟨gb336,1,none⟩) (Kd.R_far (p:=⟨gb336,0,none⟩) (Kd.R_types HO335.out BK336.out (by decide)) (fun _ hk=>hk.2) (.string (strOfNums y333))) (fun _ hk=>hk.2) (.string (⟨#[49]⟩:ByteArray))) (fun _ h_=>h_.1))) (by decide)) hk (fun _ h=>h.2)) (fun _ h=>h.1));replace BK336:=aZ (KeepBut.blk hk (g':=gb336) (o:=.cells #[.string (strOfNums y333),.string (⟨#[49]⟩:ByteArray)] 61 (0,0)) (zp BK336) NB336_0.out (by simp));replace HK:=sT hk;replace HB:=aZ (hb);replace HI0:=aZ (hi);clear hb hk hi)|(refine zg (some 23) func37 #[.pointer (some ⟨g,0,none⟩),.int .i64 0,.int .i64 20] ?_;(with_reducible refine (Yc.calls g s0_0 t338 0 20 t339 t340 w0 _ (zi HI0) bw A13.out).mono ?_);rintro e w41 ⟨rfl,hi,hb,hk⟩;refine ⟨_,rfl,?_⟩;replace BK324:=kB hk NB324_0 BK324;replace HO335:=aZ (Kd.R_mono (Kd.R_keep (IsS44.apart (show IsS44 w0 _ g s0_0 t338 from zi HI0) (zR HO335) (by decide)) hk (fun _ h=>h.2)) (fun _ h=>h.1));replace BK336:=kB hk NB336_0 BK336;replace HK:=sT hk;replace HB:=aZ (hb);replace HI0:=aZ (hi);clear hb hk hi)|((with_reducible refine gate_callee (f:=138) rfl ?_);refine goesL_ (some 25) rfl rfl func138 (by kernel_rfl) rfl #[.int .i64 ji15] rfl (by (try simp only [List.map_toArray,List.map_cons,List.map_nil]);first|done|(simp only [hji15];rfl)|rfl|(simp only [List.length_drop,List.length_take];rfl)) ?_;(with_reducible refine (YP.calls ji15 t341 _ (Tryz.Gl.below HG.out bw) A16.out).mono ?_);rintro e w42 ⟨rfl,hb⟩;refine ⟨_,rfl,?_⟩;replace HO335:=yR HO335 hb;replace BK324:=sK BK324 hb;replace HI0:=aZ (IsS44.below (zi HI0) hb);replace BK336:=sK BK336 hb;replace HK:=sU hb;replace HB:=sB hb;clear hb;obtain ⟨hcz43_0,hfz43_0⟩:=zc BK336 0 (.string (strOfNums y333)) rfl;obtain ⟨hcz43_1,hfz43_1⟩:=zc BK336 1 (.string (⟨#[49]⟩:ByteArray)) rfl)|(refine zg (some 28) func78 #[.pointer (some ⟨g,0,none⟩),.int .i64 2] ?_;(with_reducible refine (Yq.calls g s0_0 t340 2 false t343 w0 _ (zi HI0) bw A17.out).mono ?_);rintro e w44 ⟨rfl,hi,hb,hk⟩;refine ⟨_,rfl,?_⟩;replace BK324:=aZ (KeepBut.blk hk (g':=gb324) (o:=.cells #[.string ⟨#[]⟩,.string ⟨#[]⟩] 61 (0,0)) (zq BK324) NB324_0.out (by simp));replace HO335:=aZ (Kd.R_mono (Kd.R_keep (IsS44.apart (show IsS44 w0 _ g s0_0 t340 from zi HI0) (by (with_reducible repeat (first|apply Kd.R_alloc|apply Kd.R_drewN|apply Kd.R_drew));exact (Kd.R_mono (Kd.R_far (p:=⟨gb336,1,none⟩) (Kd.R_types HO335.out BK336.out (by decide)) (fun _ hk=>hk.2) (.string t341)) (fun _ h_=>h_.1))) (by decide)) hk (fun _ h=>h.2)) (fun _ h=>h.1));replace BK336:=aZ (KeepBut.blk hk (g':=gb336) (o:=.cells #[.string (strOfNums y333),.string t341] 61 (0,0)) (zp BK336) NB336_0.out (by simp));replace HK:=sT hk;replace HB:=aZ (hb);replace HI0:=aZ (hi);clear hb hk hi;obtain ⟨hcz45_0,hfz45_0⟩:=zc BK336 0 (.string (strOfNums y333)) rfl;obtain ⟨hcz45_1,hfz45_1⟩:=zc BK336 1 (.string t341) rfl;have hnb46:=NB324_0.out;have hnc46:=NB0_324.out;obtain ⟨hcz47_0,hfz47_0⟩:=zc BK324 0 (.string ⟨#[]⟩) rfl;obtain ⟨hcz47_1,hfz47_1⟩:=zc BK324 1 (.string ⟨#[]⟩) rfl))
     refine bodyPost_ret (results_cell_row rfl _ _ gb324 61 #[.string (strOfNums y333),.string t341] (0,0) _ rfl (zp BK324) underlying61 rfl (by kernel_rfl)) rfl ?_
     exact ⟨by first|rfl|(simp [errW_none,errW_some] <;> rfl)|(simp only [← hji15];first|rfl|(simp [errW_none,errW_some] <;> rfl))|(simp [*,errW_none,errW_some] <;> rfl),zi HI0,bw,kk⟩
    subst c18
    replace H:=zT H
    by_cases c19:1+(strOfNums y333).size≤9223372036854775807
    case neg=>
     rw [if_neg c19] at H
     cases H
    rw [if_pos c19] at H
    have c19b0:=eq_true c19
    have c19b1:=decide_eq_true c19
    try have c19b2:=eq_false (Nat.not_lt.2 c19)
    obtain ⟨rfl,rfl,rfl⟩:=zo3 H
    go_wp2_with (first|((with_reducible refine gate_builtin (b:=.append) (xs:=#[.tmp 14,.tmp 15]) rfl ?_);at_builtin;refine Kd.R_append (Kd.int .u8) w.heap.size rfl (.tmp 14) (.tmp 15) 45 5 (.int .u8 0) 1 rfl underlying45 info5 rfl (by decide) (by omega) u3 x3_1 49 [.int .u8 49] (fun _=>True) (fun _=>False) rfl rfl ?aP (fun _ hk=>hk.elim) ?aF ?aO (Below.refl _ _) ?aS ?aL ?_;(case aP=>exact rfl);(case aF=>exact (fun _ _=>trivial));(case aO=>exact (zR HO_3));(case aS=>exact ks);(case aL=>have:=LMc10.out;omega);intro v334 w20 ho hb hg hat;rw [← Ny333.out] at ho;replace BK324:=aZ (blk_grown (g:=gb324) (o:=.cells #[.string ⟨#[]⟩,.string ⟨#[]⟩] 61 (0,0)) (zb BK324) hg (Kd.R_ne HO_3.out BK324.out (by decide)));replace HI0:=aZ (IsS44.grown (zi HI0) hg (IsS44.own_ne HI0.out HO_3.out (by decide)));replace HB:=aZ (below_weaken bw HL.out hb);replace HK:=aZ (KeepBut.trans kk (KeepBut.of_grown hg g) (Kd.R_base2 HO_3.out));have HO335:=aZ (ho);clear HO_3;clear ho hb hg hat;have hcv21:=own_string (P:=Tryz.prog) underlying45 underlying5 underlying9 (Kd.own_of_R HO335.out))|(refine box_ev 4 #[.string ⟨#[]⟩,.string ⟨#[]⟩] 61 ?_;intro gb336 hg w22 hbox hb;replace HO335:=yR HO335 hb;replace HB:=sB hb;have BK336:=aZ hbox;have GW336:=sE hg;have GE336:=zW HW0 hg;replace HK:=sU hb;obtain ⟨NB324_336,NB336_324,BK324⟩:=sX hg hb BK324;have NB0_336:=aZ ((by rw [hg];exact Nat.ne_of_lt (IsS44.lt (show IsS44 w0 _ g s0_0 t329 from zi HI0)):g≠gb336));have NB336_0:=aZ ((by rw [hg];exact Nat.ne_of_gt (IsS44.lt (show IsS44 w0 _ g s0_0 t329 from zi HI0)):gb336≠g));replace HI0:=aZ (IsS44.below (zi HI0) hb);clear hb hbox hg;have hnb23:=NB336_324.out;have hnc23:=NB324_336.out;have hnb24:=NB336_0.out;have hnc24:=NB0_336.out;obtain ⟨hcz25_0,hfz25_0⟩:=zc BK336 0 (.string ⟨#[]⟩) rfl;obtain ⟨hcz25_1,hfz25_1⟩:=zc BK336 1 (.string ⟨#[]⟩) rfl)|(refine zg (some 21) func78 #[.pointer (some ⟨g,0,none⟩),.int .i64 2] ?_;(with_reducible refine (Yq.calls g s0_0 t329 2 true t338 w0 _ (zi HI0) bw A11.out).mono ?_);rintro e w26 ⟨rfl,hi,hb,hk⟩;refine ⟨_,rfl,?_⟩;replace BK324:=aZ (KeepBut.blk hk (g':=gb324) (o:=.cells #[.string ⟨#[]⟩,.string ⟨#[]⟩] 61 (0,0)) (zq BK324) NB324_0.out (by simp));replace HO335:=aZ (Kd.R_mono (Kd.R_keep (IsS44.apart (show IsS44 w0 _ g s0_0 t329 from zi HI0) (by (with_reducible repeat (first|apply Kd.R_alloc|apply Kd.R_drewN|apply Kd.R_drew));exact (Kd.R_mono (Kd.R_far (p:=⟨gb336,1,none⟩) (Kd.R_far (p:=⟨gb336,0,none⟩) (Kd.R_types HO335.out BK336.out (by decide)) (fun _ hk=>hk.2) (.string (strOfNums y333))) (fun _ hk=>hk.2) (.string (⟨#[49]⟩:ByteArray))) (fun _ h_=>h_.1))) (by decide)) hk (fun _ h=>h.2)) (fun _ h=>h.1));replace BK336:=aZ (KeepBut.blk hk (g':=gb336) (o:=.cells #[.string (strOfNums y333),.string (⟨#[49]⟩:ByteArray)] 61 (0,0)) (zp BK336) NB336_0.out (by simp));replace HK:=sT hk;replace HB:=aZ (hb);replace HI0:=aZ (hi);clear hb hk hi)|(refine zg (some 23) func37 #[.pointer (some ⟨g,0,none⟩),.int .i64 0,.int .i64 20] ?_;(with_reducible refine (Yc.calls g s0_0 t338 0 20 t339 t340 w0 _ (zi HI0) bw A13.out).mono ?_);rintro e w27 ⟨rfl,hi,hb,hk⟩;refine ⟨_,rfl,?_⟩;replace BK324:=kB hk NB324_0 BK324;replace HO335:=aZ (Kd.R_mono (Kd.R_keep (IsS44.apart (show IsS44 w0 _ g s0_0 t338 from zi HI0) (zR HO335) (by decide)) hk (fun _ h=>h.2)) (fun _ h=>h.1));replace BK336:=kB hk NB336_0 BK336;replace HK:=sT hk;replace HB:=aZ (hb);replace HI0:=aZ (hi);clear hb hk hi)|((with_reducible refine gate_callee (f:=138) rfl ?_);refine goesL_ (some 25) rfl rfl func138 (by kernel_rfl) rfl #[.int .i64 ji15] rfl (by (try simp only [List.map_toArray,List.map_cons,List.map_nil]);first|done|(simp only [hji15];rfl)|rfl|(simp only [List.length_drop,List.length_take];rfl)) ?_;(with_reducible refine (YP.calls ji15 t341 _ (Tryz.Gl.below HG.out bw) A16.out).mono ?_);rintro e w28 ⟨rfl,hb⟩;refine ⟨_,rfl,?_⟩;replace HO335:=yR HO335 hb;replace BK324:=sK BK324 hb;replace HI0:=aZ (IsS44.below (zi HI0) hb);replace BK336:=sK BK336 hb;replace HK:=sU hb;replace HB:=sB hb;clear hb;obtain ⟨hcz29_0,hfz29_0⟩:=zc BK336 0 (.string (strOfNums y333)) rfl;obtain ⟨hcz29_1,hfz29_1⟩:=zc BK336 1 (.string (⟨#[49]⟩:ByteArray)) rfl)|(refine zg (some 28) func78 #[.pointer (some ⟨g,0,none⟩),.int .i64 2] ?_;(with_reducible refine (Yq.calls g s0_0 t340 2 true t343 w0 _ (zi HI0) bw A17.out).mono ?_);rintro e w30 ⟨rfl,hi,hb,hk⟩;refine ⟨_,rfl,?_⟩;replace BK324:=aZ (KeepBut.blk hk (g':=gb324) (o:=.cells #[.string ⟨#[]⟩,.string ⟨#[]⟩] 61 (0,0)) (zq BK324) NB324_0.out (by simp));replace HO335:=aZ (Kd.R_mono (Kd.R_keep (IsS44.apart (show IsS44 w0 _ g s0_0 t340 from zi HI0) (by (with_reducible repeat (first|apply Kd.R_alloc|apply Kd.R_drewN|apply Kd.R_drew));exact (Kd.R_mono (Kd.R_far (p:=⟨gb336,1,none⟩) (Kd.R_types HO335.out BK336.out (by decide)) (fun _ hk=>hk.2) (.string t341)) (fun _ h_=>h_.1))) (by decide)) hk (fun _ h=>h.2)) (fun _ h=>h.1));replace BK336:=aZ (KeepBut.blk hk (g':=gb336) (o:=.cells #[.string (strOfNums y333),.string t341] 61 (0,0)) (zp BK336) NB336_0.out (by simp));replace HK:=sT hk;replace HB:=aZ (hb);replace HI0:=aZ (hi);clear hb hk hi;obtain ⟨hcz31_0,hfz31_0⟩:=zc BK336 0 (.string (strOfNums y333)) rfl;obtain ⟨hcz31_1,hfz31_1⟩:=zc BK336 1 (.string t341) rfl;have hnb32:=NB324_0.out;have hnc32:=NB0_324.out;obtain ⟨hcz33_0,hfz33_0⟩:=zc BK324 0 (.string ⟨#[]⟩) rfl;obtain ⟨hcz33_1,hfz33_1⟩:=zc BK324 1 (.string ⟨#[]⟩) rfl))
    refine bodyPost_ret (results_cell_row rfl _ _ gb324 61 #[.string ((⟨#[45]⟩:ByteArray)++(strOfNums y333)),.string t341] (0,0) _ rfl (zq BK324) underlying61 rfl (by kernel_rfl)) rfl ?_
    exact ⟨by first|rfl|(simp [errW_none,errW_some] <;> rfl)|(simp only [← hji15];first|rfl|(simp [errW_none,errW_some] <;> rfl))|(simp [*,errW_none,errW_some] <;> rfl),zi HI0,bw,kk⟩
   rw [if_pos c7] at H
   have c7b0:=decide_eq_true c7
   clear c7
   by_cases c8:x3_1.length<140737488355328
   case neg=>
    rw [if_neg c8] at H
    cases H
   rw [if_pos c8] at H
   have LMc8:=aZ c8
   clear c8
   obtain ⟨y330,hy330⟩:∃ y_:List Int,y_=(x3_1++[48]):=⟨_,rfl⟩
   replace H:(Yi.l0 k1 y330 t328 (wrap64 (x8_1+1)) s0_0 t329)=some (r1,r2,r3):=zy hy330 H
   have Ny330:=aZ hy330
   clear hy330
   have H':=aZ H
   clear H
   go_wp2_with (first|((with_reducible refine gate_builtin (b:=.append) (xs:=#[.tmp 10,.tmp 11]) rfl ?_);at_builtin;refine Kd.R_append (Kd.int .u8) w.heap.size rfl (.tmp 10) (.tmp 11) 45 5 (.int .u8 0) 1 rfl underlying45 info5 rfl (by decide) (by omega) u3 x3_1 48 [.int .u8 48] (fun _=>True) (fun _=>False) rfl rfl ?aP (fun _ hk=>hk.elim) ?aF ?aO (Below.refl _ _) ?aS ?aL ?_;(case aP=>exact rfl);(case aF=>exact (fun _ _=>trivial));(case aO=>exact (zR HO_3));(case aS=>exact ks);(case aL=>have:=LMc8.out;omega);intro v331 w9 ho hb hg hat;rw [← Ny330.out] at ho;replace BK324:=aZ (blk_grown (g:=gb324) (o:=.cells #[.string ⟨#[]⟩,.string ⟨#[]⟩] 61 (0,0)) (zb BK324) hg (Kd.R_ne HO_3.out BK324.out (by decide)));replace HI0:=aZ (IsS44.grown (zi HI0) hg (IsS44.own_ne HI0.out HO_3.out (by decide)));replace HB:=aZ (below_weaken bw HL.out hb);replace HK:=aZ (KeepBut.trans kk (KeepBut.of_grown hg g) (Kd.R_base2 HO_3.out));have HO332:=aZ (ho);clear HO_3;clear ho hb hg hat))
   go_roundg k1
   case measure=>have:=HK1.out;omega
   case rel=>exact ⟨(y330),(wrap64 (x8_1+1)),zs,H',⟨by have:=HK1.out;omega⟩,⟨zR HO332⟩,⟨zb BK324⟩,⟨zi HI0⟩,⟨kk⟩,⟨bw⟩⟩
def Yb.l0:Nat→Int→Int→Int→Int→Option (ByteArray×ByteArray)
 | 0,_,_,_,_=>none
 | k+1,x0,x1,x5,x6=>if x6=0 then (if x5=0 then (none) else ((YP.f (wrap64 (Int.tdiv x0 x5))).bind fun t347=>((YP.f (wrap64 (Int.tdiv x1 x5))).bind fun t348=>(some (t347,t348))))) else (Yb.l0 k x0 x1 x6 (Int.tmod x5 x6))
def Yb.f (k:Nat) (a0:Int) (a1:Int):Option (ByteArray×ByteArray):=Yb.l0 k a0 a1 (mx a0 (wrap64 (-a0))) a1
def Yb.T4:Bool×List (List Nat×List Nat):=(true,[([],[]),([],[]),([0,1],[0,1]),([2],[2]),([],[]),([],[]),([4,5],[4,5]),([6,3],[6]),([3,7],[3,7]),([8,7,0,1,2,3,4,5,6,7,8],[8])])
def Yb.B4:List Nat:=[0,0,3,7,0,0,48,127,255,511]
theorem Yb.tab4:rtab .any (opsOf Tryz.f125 4)=Yb.T4:=by kernel_rfl
theorem Yb.bits4:waitsOk Yb.T4.2 Yb.B4=true:=by kernel_rfl
theorem Yb.calls (k:Nat) (a0:Int) (a1:Int) (r1:ByteArray) (r2:ByteArray) (w:World) (hG:Tryz.Gl w) (h:Yb.f k a0 a1=some (r1,r2)) :
  Calls Tryz.prog 125 #[.int .i64 a0,.int .i64 a1] w fun e w'=>e = .returned (.agg #[.string r1,.string r2])∧Below w.heap.size w w':=by
 have hu61:=underlying61
 have HG:=aZ hG
 clear hG
 have HB:=aZ (Below.refl w.heap.size w)
 have H:=h
 unfold Yb.f at H
 clear h
 obtain ⟨ji3,hji3⟩:∃ j_:Int,(mx a0 (wrap64 (-a0)))=j_:=⟨_,rfl⟩
 (first|rw [hji3] at H|simp only [hji3] at H)
 have hji3_:(if a0<(wrap64 (-a0)) then (wrap64 (-a0)) else a0)=ji3:=hji3
 have H':=aZ H
 clear H
 go_enter func125,ntmps125
 go_wp2_with (first|(refine box_ev 4 #[.string ⟨#[]⟩,.string ⟨#[]⟩] 61 ?_;intro gb346 hg w4 hbox hb;have BK346:=aZ hbox;have GE346:=sG hg;replace HB:=sB hb;clear hb hbox hg))
 go_loopg [5,6] k (fun kq v5 v6 w'=>∃ (x5_1:Int) (x6_1:Int),v5 = .int .i64 x5_1∧v6 = .int .i64 x6_1∧Aside0 (Yb.l0 kq a0 a1 x5_1 x6_1=some (r1,r2))∧Aside0 (kq≤k)∧Aside0 (w'.heap[gb346]? = some (.cells #[.string ⟨#[]⟩,.string ⟨#[]⟩] 61 (0,0)))∧Aside0 (Below w.heap.size w w'))
 case atStart=>exact ⟨(ji3),(a1),(by first|rfl|(simp;done)|(simp only [← hji3] <;> (first|rfl|simp))|(simp [*];done)),zs,H',⟨Nat.le_refl _⟩,⟨zb BK346⟩,⟨bw⟩⟩
 case round =>
  clear H'
  try clear c1
  obtain ⟨x5_1,x6_1,rfl,rfl,HA,HK1,BK346,HB⟩:=hrel
  cases gk with
  | zero=>exact absurd HA.out (by simp [Yb.l0])
  | succ k1 =>
   have H:=HA.out
   clear HA
   simp only [Yb.l0] at H
   by_cases c5:x6_1=0
   case neg=>
    rw [if_neg c5] at H
    obtain ⟨c5b0,c5b1⟩:=zX c5
    have H':=aZ H
    clear H
    try go_wp2
    replace BK346:=aZ (blk_drew BK346.out)
    replace HB:=aZ (below_drew1 HB.out)
    refine start_ (n:=6) (S:=fun w'=>True) (ds:=[]) #[false,false,false,false,false,false] (by kernel_rfl) rfl rfl trivial (fun hHeld=>?_)
    generalize wr.drew=w14 at BK346 HB hHeld ⊢
    refine pv 0 (some 14) ?_
    refine pv 1 (some 15) ?_
    refine pv 2 (some 16) ?_
    refine pv 3 (some 17) ?_
    refine pv 4 (some 5) ?_
    refine pv 5 (some 6) ?_
    refine done_ (by kernel_rfl) ?_
    try go_wp2
    go_roundg k1
    case measure=>have:=HK1.out;omega
    case rel=>exact ⟨(x6_1),(Int.tmod x5_1 x6_1),zs,zs,H',⟨by have:=HK1.out;omega⟩,⟨zb BK346⟩,⟨bw⟩⟩
   rw [if_pos c5] at H
   obtain ⟨c5b0,c5b1⟩:=zY c5
   clear c5
   by_cases c6:x5_1=0
   case neg=>
    rw [if_neg c6] at H
    obtain ⟨c6b0,c6b1⟩:=zX c6
    obtain ⟨t347,A7,H⟩:=zB H
    obtain ⟨t348,A8,H⟩:=zB H
    obtain ⟨rfl,rfl⟩:=zo2 H
    try go_wp2
    replace BK346:=aZ (blk_drew BK346.out)
    replace HB:=aZ (below_drew1 HB.out)
    refine start_ (n:=10) (S:=fun w'=>True) (ds:=[]) #[false,false,false,false,false,false,false,false,false,false] (by kernel_rfl) rfl rfl trivial (fun hHeld=>?_);refine with_tabW Yb.tab4 Yb.bits4 (fun HT_ HW_=>?_)
    generalize wr.drew=w9 at BK346 HB hHeld ⊢
    refine pu 0 (some 18) HT_ ?_
    refine pu 1 (some 19) HT_ ?_
    refine pu 2 (some 20) HT_ ?_
    refine pu 4 (some 22) HT_ ?_
    refine pu 5 (some 23) HT_ ?_
    refine pu 6 (some 24) HT_ ?_
    refine one_ (i:=3) (N:=some 21) #[true,true,true,true,true,true,true,false,false,false] rfl rfl (one_of HT_.out (by kernel_rfl)) (by decide) (fun K hK=>?_)
    refine goes_ func138 (by kernel_rfl) rfl #[.int .i64 (wrap64 (Int.tdiv a0 x5_1))] (by rfl) rfl rfl zm ?_
    with_reducible refine (YP.calls (wrap64 (Int.tdiv a0 x5_1)) t347 _ (Tryz.Gl.below HG.out bw) A7.out).mono ?_
    rintro e w10 ⟨rfl,hb⟩
    refine ⟨_,rfl,?_⟩
    replace BK346:=sK BK346 hb
    replace HB:=sB hb
    clear hb
    refine hK.out _ _ trivial (fun hHeld=>?_)
    clear hK K
    refine nm ?_
    refine one_ (i:=7) (N:=some 25) #[true,true,true,true,true,true,true,true,false,false] rfl rfl (one_of HT_.out (by kernel_rfl)) (by decide) (fun K hK=>?_)
    refine goes_ func138 (by kernel_rfl) rfl #[.int .i64 (wrap64 (Int.tdiv a1 x5_1))] (by rfl) rfl rfl zm ?_
    with_reducible refine (YP.calls (wrap64 (Int.tdiv a1 x5_1)) t348 _ (Tryz.Gl.below HG.out bw) A8.out).mono ?_
    rintro e w11 ⟨rfl,hb⟩
    refine ⟨_,rfl,?_⟩
    replace BK346:=sK BK346 hb
    replace HB:=sB hb
    clear hb
    refine hK.out _ _ trivial (fun hHeld=>?_)
    clear hK K
    refine nm ?_
    refine pu 8 (some 26) HT_ ?_
    refine one_ (i:=9) (N:=none) #[true,true,true,true,true,true,true,true,true,true] rfl rfl (one_of HT_.out (by kernel_rfl)) (by decide) (fun K hK=>?_)
    have hs12:w11.cell? ⟨gb346,0,none⟩=some (.string (⟨#[]⟩:ByteArray)):=(blk_cell BK346.out 0).trans rfl
    have hfs12:=blk_frozen BK346.out 0
    have hs13:w11.cell? ⟨gb346,1,none⟩=some (.string (⟨#[]⟩:ByteArray)):=(blk_cell BK346.out 1).trans rfl
    have hfs13:=blk_frozen BK346.out 1
    refine skip_ (w1:=?_) (by rfl) rfl ?_ ?_
    rotate_left
    ·go_simp
     rfl
    refine hK.out _ _ trivial (fun hHeld=>?_)
    clear hK K
    refine done_ (done_of HT_.out (by kernel_rfl)) ?_
    try go_wp2
    refine bodyPost_ret (results_cell_row rfl _ _ gb346 61 #[.string t347,.string t348] (0,0) _ rfl (zp BK346) underlying61 rfl (by kernel_rfl)) rfl ?_
    exact ⟨by first|rfl|(simp [errW_none,errW_some] <;> rfl)|(simp only [← hji3];first|rfl|(simp [errW_none,errW_some] <;> rfl))|(simp [*,errW_none,errW_some] <;> rfl),bw⟩
   rw [if_pos c6] at H
   cases H
def Yy.f (k:Nat) (s0_0:List Int) (s0_1:Int):Option (ByteArray×ByteArray×Int):=(Yc.f s0_0 s0_1 (-20) 20).bind fun bt350=>((Y4.f s0_0 bt350.2 6).bind fun bt352=>(if bt352.1=0 then ((Yc.f s0_0 bt352.2 1 9).bind fun bt354=>((Yb.f k bt350.1 bt354.1).bind fun bt356=>(some (bt356.1,bt356.2,bt354.2)))) else (if bt352.1=1 then ((YV.f s0_0 bt352.2 (([2,4,8,3,7,1000]:List Int))).bind fun bt361=>((Yb.f k bt350.1 bt361.1).bind fun bt363=>(some (bt363.1,bt363.2,bt361.2)))) else (if bt352.1=2 then ((YZ.f s0_0 bt352.2).bind fun bt365=>((Yc.f s0_0 bt365.2 1 99).bind fun bt367=>((Yb.f k bt365.1 bt367.1).bind fun bt369=>(some (bt369.1,bt369.2,bt367.2))))) else (if bt352.1=3 then ((Yi.f k s0_0 bt352.2).bind fun bt371=>(some (bt371.1,bt371.2.1,bt371.2.2))) else ((Yb.f k bt350.1 1).bind fun bt374=>(some (bt374.1,bt374.2,bt352.2))))))))
theorem Yy.calls (k:Nat) (g:Nat) (s0_0:List Int) (s0_1:Int) (r1:ByteArray) (r2:ByteArray) (r3:Int) (w0 w:World) (hI:IsS44 w0 w g s0_0 s0_1) (hB:Below w0.heap.size w0 w) (hG:Tryz.Gl w0) (h:Yy.f k s0_0 s0_1=some (r1,r2,r3)) :
  Calls Tryz.prog 72 #[.pointer (some ⟨g,0,none⟩)] w fun e w'=>e = .returned (.agg #[.string r1,.string r2])∧IsS44 w0 w' g s0_0 r3∧Below w0.heap.size w0 w'∧KeepBut w w' g none:=by
 have hu61:=underlying61
 have HG:=aZ hG
 clear hG
 have HI0:=aZ hI
 have HK:=aZ (KeepBut.refl w g none)
 have HL:=aZ hB.size
 clear hI
 have HW0:=aZ hB.size
 have HB:=aZ hB
 clear hB
 have H:=h
 unfold Yy.f at H
 clear h
 obtain ⟨⟨t350,t351⟩,A2,H⟩:=zB H
 (try dsimp only at H)
 obtain ⟨⟨t352,t353⟩,A3,H⟩:=zB H
 (try dsimp only at H)
 by_cases c4:t352=0
 case neg=>
  rw [if_neg c4] at H
  obtain ⟨c4b0,c4b1⟩:=zX c4
  by_cases c14:t352=1
  case neg=>
   rw [if_neg c14] at H
   obtain ⟨c14b0,c14b1⟩:=zX c14
   by_cases c27:t352=2
   case neg=>
    rw [if_neg c27] at H
    obtain ⟨c27b0,c27b1⟩:=zX c27
    by_cases c39:t352=3
    case neg=>
     rw [if_neg c39] at H
     obtain ⟨c39b0,c39b1⟩:=zX c39
     obtain ⟨⟨t374,t375⟩,A47,H⟩:=zB H
     (try dsimp only at H)
     obtain ⟨rfl,rfl,rfl⟩:=zo3 H
     go_enter func72,ntmps72
     go_wp2_with (first|(refine box_ev 2 #[.string ⟨#[]⟩,.string ⟨#[]⟩] 61 ?_;intro gb349 hg w48 hbox hb;replace HB:=sB hb;have BK349:=aZ hbox;have GW349:=sE hg;have GE349:=zW HW0 hg;replace HK:=sU hb;have NB0_349:=aZ ((by rw [hg];exact Nat.ne_of_lt (IsS44.lt (show IsS44 w0 _ g s0_0 s0_1 from zi HI0)):g≠gb349));have NB349_0:=aZ ((by rw [hg];exact Nat.ne_of_gt (IsS44.lt (show IsS44 w0 _ g s0_0 s0_1 from zi HI0)):gb349≠g));replace HI0:=aZ (IsS44.below (zi HI0) hb);clear hb hbox hg)|(refine zg (some 6) func37 #[.pointer (some ⟨g,0,none⟩),.int .i64 (-20),.int .i64 20] ?_;(with_reducible refine (Yc.calls g s0_0 s0_1 (-20) 20 t350 t351 w0 _ (zi HI0) bw A2.out).mono ?_);rintro e w49 ⟨rfl,hi,hb,hk⟩;refine ⟨_,rfl,?_⟩;replace BK349:=kB hk NB349_0 BK349;replace HK:=sT hk;replace HB:=aZ (hb);replace HI0:=aZ (hi);clear hb hk hi)|(refine zg (some 8) func33 #[.pointer (some ⟨g,0,none⟩),.int .i64 6] ?_;(with_reducible refine (Y4.calls g s0_0 t351 6 t352 t353 w0 _ (zi HI0) bw A3.out).mono ?_);rintro e w50 ⟨rfl,hi,hb,hk⟩;refine ⟨_,rfl,?_⟩;replace BK349:=kB hk NB349_0 BK349;replace HK:=sT hk;replace HB:=aZ (hb);replace HI0:=aZ (hi);clear hb hk hi)|(refine zg (some 30) func125 #[.int .i64 t350,.int .i64 1] ?_;(with_reducible refine (Yb.calls k t350 1 t374 t375 _ (Tryz.Gl.below HG.out bw) A47.out).mono ?_);rintro e w51 ⟨rfl,hb⟩;refine ⟨_,rfl,?_⟩;replace HI0:=aZ (IsS44.below (zi HI0) hb);replace BK349:=sK BK349 hb;replace HK:=sU hb;replace HB:=sB hb;clear hb;have hnb52:=NB349_0.out;have hnc52:=NB0_349.out;obtain ⟨hcz53_0,hfz53_0⟩:=zc BK349 0 (.string ⟨#[]⟩) rfl;obtain ⟨hcz53_1,hfz53_1⟩:=zc BK349 1 (.string ⟨#[]⟩) rfl))
     refine bodyPost_ret (results_cell_row rfl _ _ gb349 61 #[.string t374,.string t375] (0,0) _ rfl (zp BK349) underlying61 rfl (by kernel_rfl)) rfl ?_
     exact ⟨ze,zi HI0,bw,kk⟩
    rw [if_pos c39] at H
    obtain ⟨c39b0,c39b1⟩:=zY c39
    clear c39
    obtain ⟨⟨t371,t372,t373⟩,A40,H⟩:=zB H
    (try dsimp only at H)
    obtain ⟨rfl,rfl,rfl⟩:=zo3 H
    go_enter func72,ntmps72
    go_wp2_with (first|(refine box_ev 2 #[.string ⟨#[]⟩,.string ⟨#[]⟩] 61 ?_;intro gb349 hg w41 hbox hb;replace HB:=sB hb;have BK349:=aZ hbox;have GW349:=sE hg;have GE349:=zW HW0 hg;replace HK:=sU hb;have NB0_349:=aZ ((by rw [hg];exact Nat.ne_of_lt (IsS44.lt (show IsS44 w0 _ g s0_0 s0_1 from zi HI0)):g≠gb349));have NB349_0:=aZ ((by rw [hg];exact Nat.ne_of_gt (IsS44.lt (show IsS44 w0 _ g s0_0 s0_1 from zi HI0)):gb349≠g));replace HI0:=aZ (IsS44.below (zi HI0) hb);clear hb hbox hg)|(refine zg (some 6) func37 #[.pointer (some ⟨g,0,none⟩),.int .i64 (-20),.int .i64 20] ?_;(with_reducible refine (Yc.calls g s0_0 s0_1 (-20) 20 t350 t351 w0 _ (zi HI0) bw A2.out).mono ?_);rintro e w42 ⟨rfl,hi,hb,hk⟩;refine ⟨_,rfl,?_⟩;replace BK349:=kB hk NB349_0 BK349;replace HK:=sT hk;replace HB:=aZ (hb);replace HI0:=aZ (hi);clear hb hk hi)|(refine zg (some 8) func33 #[.pointer (some ⟨g,0,none⟩),.int .i64 6] ?_;(with_reducible refine (Y4.calls g s0_0 t351 6 t352 t353 w0 _ (zi HI0) bw A3.out).mono ?_);rintro e w43 ⟨rfl,hi,hb,hk⟩;refine ⟨_,rfl,?_⟩;replace BK349:=kB hk NB349_0 BK349;replace HK:=sT hk;replace HB:=aZ (hb);replace HI0:=aZ (hi);clear hb hk hi)|(refine zg (some 27) func124 #[.pointer (some ⟨g,0,none⟩)] ?_;(with_reducible refine (Yi.calls k g s0_0 t353 t371 t372 t373 w0 _ (zi HI0) bw HG.out A40.out).mono ?_);rintro e w44 ⟨rfl,hi,hb,hk⟩;refine ⟨_,rfl,?_⟩;replace BK349:=kB hk NB349_0 BK349;replace HK:=sT hk;replace HB:=aZ (hb);replace HI0:=aZ (hi);clear hb hk hi;have hnb45:=NB349_0.out;have hnc45:=NB0_349.out;obtain ⟨hcz46_0,hfz46_0⟩:=zc BK349 0 (.string ⟨#[]⟩) rfl;obtain ⟨hcz46_1,hfz46_1⟩:=zc BK349 1 (.string ⟨#[]⟩) rfl))
    refine bodyPost_ret (results_cell_row rfl _ _ gb349 61 #[.string t371,.string t372] (0,0) _ rfl (zp BK349) underlying61 rfl (by kernel_rfl)) rfl ?_
    exact ⟨ze,zi HI0,bw,kk⟩
   rw [if_pos c27] at H
   obtain ⟨c27b0,c27b1⟩:=zY c27
   clear c27
   obtain ⟨⟨t365,t366⟩,A28,H⟩:=zB H
   (try dsimp only at H)
   obtain ⟨⟨t367,t368⟩,A29,H⟩:=zB H
   (try dsimp only at H)
   obtain ⟨⟨t369,t370⟩,A30,H⟩:=zB H
   (try dsimp only at H)
   obtain ⟨rfl,rfl,rfl⟩:=zo3 H
   go_enter func72,ntmps72
   go_wp2_with (first|(refine box_ev 2 #[.string ⟨#[]⟩,.string ⟨#[]⟩] 61 ?_;intro gb349 hg w31 hbox hb;replace HB:=sB hb;have BK349:=aZ hbox;have GW349:=sE hg;have GE349:=zW HW0 hg;replace HK:=sU hb;have NB0_349:=aZ ((by rw [hg];exact Nat.ne_of_lt (IsS44.lt (show IsS44 w0 _ g s0_0 s0_1 from zi HI0)):g≠gb349));have NB349_0:=aZ ((by rw [hg];exact Nat.ne_of_gt (IsS44.lt (show IsS44 w0 _ g s0_0 s0_1 from zi HI0)):gb349≠g));replace HI0:=aZ (IsS44.below (zi HI0) hb);clear hb hbox hg)|(refine zg (some 6) func37 #[.pointer (some ⟨g,0,none⟩),.int .i64 (-20),.int .i64 20] ?_;(with_reducible refine (Yc.calls g s0_0 s0_1 (-20) 20 t350 t351 w0 _ (zi HI0) bw A2.out).mono ?_);rintro e w32 ⟨rfl,hi,hb,hk⟩;refine ⟨_,rfl,?_⟩;replace BK349:=kB hk NB349_0 BK349;replace HK:=sT hk;replace HB:=aZ (hb);replace HI0:=aZ (hi);clear hb hk hi)|(refine zg (some 8) func33 #[.pointer (some ⟨g,0,none⟩),.int .i64 6] ?_;(with_reducible refine (Y4.calls g s0_0 t351 6 t352 t353 w0 _ (zi HI0) bw A3.out).mono ?_);rintro e w33 ⟨rfl,hi,hb,hk⟩;refine ⟨_,rfl,?_⟩;replace BK349:=kB hk NB349_0 BK349;replace HK:=sT hk;replace HB:=aZ (hb);replace HI0:=aZ (hi);clear hb hk hi)|(refine zg (some 21) func123 #[.pointer (some ⟨g,0,none⟩)] ?_;(with_reducible refine (YZ.calls g s0_0 t353 t365 t366 w0 _ (zi HI0) bw A28.out).mono ?_);rintro e w34 ⟨rfl,hi,hb,hk⟩;refine ⟨_,rfl,?_⟩;replace BK349:=kB hk NB349_0 BK349;replace HK:=sT hk;replace HB:=aZ (hb);replace HI0:=aZ (hi);clear hb hk hi)|(refine zg (some 23) func37 #[.pointer (some ⟨g,0,none⟩),.int .i64 1,.int .i64 99] ?_;(with_reducible refine (Yc.calls g s0_0 t366 1 99 t367 t368 w0 _ (zi HI0) bw A29.out).mono ?_);rintro e w35 ⟨rfl,hi,hb,hk⟩;refine ⟨_,rfl,?_⟩;replace BK349:=kB hk NB349_0 BK349;replace HK:=sT hk;replace HB:=aZ (hb);replace HI0:=aZ (hi);clear hb hk hi)|(refine zg (some 30) func125 #[.int .i64 t365,.int .i64 t367] ?_;(with_reducible refine (Yb.calls k t365 t367 t369 t370 _ (Tryz.Gl.below HG.out bw) A30.out).mono ?_);rintro e w36 ⟨rfl,hb⟩;refine ⟨_,rfl,?_⟩;replace HI0:=aZ (IsS44.below (zi HI0) hb);replace BK349:=sK BK349 hb;replace HK:=sU hb;replace HB:=sB hb;clear hb;have hnb37:=NB349_0.out;have hnc37:=NB0_349.out;obtain ⟨hcz38_0,hfz38_0⟩:=zc BK349 0 (.string ⟨#[]⟩) rfl;obtain ⟨hcz38_1,hfz38_1⟩:=zc BK349 1 (.string ⟨#[]⟩) rfl))
   refine bodyPost_ret (results_cell_row rfl _ _ gb349 61 #[.string t369,.string t370] (0,0) _ rfl (zp BK349) underlying61 rfl (by kernel_rfl)) rfl ?_
   exact ⟨ze,zi HI0,bw,kk⟩
  rw [if_pos c14] at H
  obtain ⟨c14b0,c14b1⟩:=zY c14
  clear c14
  obtain ⟨y358,hy358⟩:∃ y_:List Int,y_=(([2,4,8,3,7,1000]:List Int)):=⟨_,rfl⟩
  replace H:((YV.f s0_0 t353 y358).bind fun bt361=>((Yb.f k t350 bt361.1).bind fun bt363=>(some (bt363.1,bt363.2,bt361.2))))=some (r1,r2,r3):=zy hy358 H
  have Ny358:=aZ hy358
  clear hy358
  obtain ⟨⟨t361,t362⟩,A15,H⟩:=zB H
  (try dsimp only at H)
  obtain ⟨⟨t363,t364⟩,A16,H⟩:=zB H
  (try dsimp only at H)
  obtain ⟨rfl,rfl,rfl⟩:=zo3 H
  go_enter func72,ntmps72
  go_wp2_with (first|(refine box_ev 2 #[.string ⟨#[]⟩,.string ⟨#[]⟩] 61 ?_;intro gb349 hg w17 hbox hb;replace HB:=sB hb;have BK349:=aZ hbox;have GW349:=sE hg;have GE349:=zW HW0 hg;replace HK:=sU hb;have NB0_349:=aZ ((by rw [hg];exact Nat.ne_of_lt (IsS44.lt (show IsS44 w0 _ g s0_0 s0_1 from zi HI0)):g≠gb349));have NB349_0:=aZ ((by rw [hg];exact Nat.ne_of_gt (IsS44.lt (show IsS44 w0 _ g s0_0 s0_1 from zi HI0)):gb349≠g));replace HI0:=aZ (IsS44.below (zi HI0) hb);clear hb hbox hg)|(refine zg (some 6) func37 #[.pointer (some ⟨g,0,none⟩),.int .i64 (-20),.int .i64 20] ?_;(with_reducible refine (Yc.calls g s0_0 s0_1 (-20) 20 t350 t351 w0 _ (zi HI0) bw A2.out).mono ?_);rintro e w18 ⟨rfl,hi,hb,hk⟩;refine ⟨_,rfl,?_⟩;replace BK349:=kB hk NB349_0 BK349;replace HK:=sT hk;replace HB:=aZ (hb);replace HI0:=aZ (hi);clear hb hk hi)|(refine zg (some 8) func33 #[.pointer (some ⟨g,0,none⟩),.int .i64 6] ?_;(with_reducible refine (Y4.calls g s0_0 t351 6 t352 t353 w0 _ (zi HI0) bw A3.out).mono ?_);rintro e w19 ⟨rfl,hi,hb,hk⟩;refine ⟨_,rfl,?_⟩;replace BK349:=kB hk NB349_0 BK349;replace HK:=sT hk;replace HB:=aZ (hb);replace HI0:=aZ (hi);clear hb hk hi)|((with_reducible refine gate_dst (N:=16) rfl ?_);refine Kd.R_lit (Kd.int .i64) _ 3 ?hg (N:=16) ?hd (xs:=([2,4,8,3,7,1000]:List Int)) (inner:=[.int .i64 2,.int .i64 4,.int .i64 8,.int .i64 3,.int .i64 7,.int .i64 1000]) (ok:=fun _=>True) (okp:=fun _=>True) ?hr ?hp (fun _ hk=>hk) trivial (Below.refl _ _) (Nat.le_refl _) (by simp) ?_;(case hd=>rfl);(case hg=>rfl);(case hr=>first|(go_simp;done)|(go_simp;rfl));(case hp=>exact (Reps.one (show Kd.M (Kd.int .i64) _ _ _ 2 [.int .i64 2] from rfl) (Reps.one (show Kd.M (Kd.int .i64) _ _ _ 4 [.int .i64 4] from rfl) (Reps.one (show Kd.M (Kd.int .i64) _ _ _ 8 [.int .i64 8] from rfl) (Reps.one (show Kd.M (Kd.int .i64) _ _ _ 3 [.int .i64 3] from rfl) (Reps.one (show Kd.M (Kd.int .i64) _ _ _ 7 [.int .i64 7] from rfl) (Reps.one (show Kd.M (Kd.int .i64) _ _ _ 1000 [.int .i64 1000] from rfl) (Reps.none _ _))))))));intro v359 w20 ho21 hb hg_ hnew_;clear hg_ hnew_;(first|rw [← Ny358.out] at ho21|(simp only [Int.reduceToNat] at ho21;rw [← Ny358.out] at ho21));have HO360:=aZ (Kd.R_lower ho21 ks);replace HI0:=aZ (IsS44.below (zi HI0) hb);replace BK349:=sK BK349 hb;replace HK:=sU hb;replace HB:=sB hb;clear hb ho21;obtain ⟨Ao22,co22,rfl⟩:=Kd.R_slice HO360.out)|(refine zg (some 17) func122 #[.pointer (some ⟨g,0,none⟩),.slice Ao22 y358.length co22] ?_;(with_reducible refine (YV.calls g s0_0 t353 _ _ y358 t361 t362 w0 _ (zi HI0) bw (zC (Kd.R_reads' HO360.out).2.2) ((Kd.R_reads' HO360.out).2.1) ?side5 A15.out).mono ?_);(case side5=>exact far_slice (IsS44.own_ne HI0.out HO360.out (by decide)));rintro e w23 ⟨rfl,hi,hb,hk⟩;refine ⟨_,rfl,?_⟩;replace BK349:=kB hk NB349_0 BK349;replace HO360:=aZ (Kd.R_mono (Kd.R_keep (IsS44.apart (show IsS44 w0 _ g s0_0 t353 from zi HI0) (zR HO360) (by decide)) hk (fun _ h=>h.2)) (fun _ h=>h.1));replace HK:=sT hk;replace HB:=aZ (hb);replace HI0:=aZ (hi);clear hb hk hi)|(refine zg (some 30) func125 #[.int .i64 t350,.int .i64 t361] ?_;(with_reducible refine (Yb.calls k t350 t361 t363 t364 _ (Tryz.Gl.below HG.out bw) A16.out).mono ?_);rintro e w24 ⟨rfl,hb⟩;refine ⟨_,rfl,?_⟩;replace HO360:=yR HO360 hb;replace HI0:=aZ (IsS44.below (zi HI0) hb);replace BK349:=sK BK349 hb;replace HK:=sU hb;replace HB:=sB hb;clear hb;have hnb25:=NB349_0.out;have hnc25:=NB0_349.out;obtain ⟨hcz26_0,hfz26_0⟩:=zc BK349 0 (.string ⟨#[]⟩) rfl;obtain ⟨hcz26_1,hfz26_1⟩:=zc BK349 1 (.string ⟨#[]⟩) rfl))
  refine bodyPost_ret (results_cell_row rfl _ _ gb349 61 #[.string t363,.string t364] (0,0) _ rfl (zp BK349) underlying61 rfl (by kernel_rfl)) rfl ?_
  exact ⟨ze,zi HI0,bw,kk⟩
 rw [if_pos c4] at H
 obtain ⟨c4b0,c4b1⟩:=zY c4
 clear c4
 obtain ⟨⟨t354,t355⟩,A5,H⟩:=zB H
 (try dsimp only at H)
 obtain ⟨⟨t356,t357⟩,A6,H⟩:=zB H
 (try dsimp only at H)
 obtain ⟨rfl,rfl,rfl⟩:=zo3 H
 go_enter func72,ntmps72
 go_wp2_with (first|(refine box_ev 2 #[.string ⟨#[]⟩,.string ⟨#[]⟩] 61 ?_;intro gb349 hg w7 hbox hb;replace HB:=sB hb;have BK349:=aZ hbox;have GW349:=sE hg;have GE349:=zW HW0 hg;replace HK:=sU hb;have NB0_349:=aZ ((by rw [hg];exact Nat.ne_of_lt (IsS44.lt (show IsS44 w0 _ g s0_0 s0_1 from zi HI0)):g≠gb349));have NB349_0:=aZ ((by rw [hg];exact Nat.ne_of_gt (IsS44.lt (show IsS44 w0 _ g s0_0 s0_1 from zi HI0)):gb349≠g));replace HI0:=aZ (IsS44.below (zi HI0) hb);clear hb hbox hg)|(refine zg (some 6) func37 #[.pointer (some ⟨g,0,none⟩),.int .i64 (-20),.int .i64 20] ?_;(with_reducible refine (Yc.calls g s0_0 s0_1 (-20) 20 t350 t351 w0 _ (zi HI0) bw A2.out).mono ?_);rintro e w8 ⟨rfl,hi,hb,hk⟩;refine ⟨_,rfl,?_⟩;replace BK349:=kB hk NB349_0 BK349;replace HK:=sT hk;replace HB:=aZ (hb);replace HI0:=aZ (hi);clear hb hk hi)|(refine zg (some 8) func33 #[.pointer (some ⟨g,0,none⟩),.int .i64 6] ?_;(with_reducible refine (Y4.calls g s0_0 t351 6 t352 t353 w0 _ (zi HI0) bw A3.out).mono ?_);rintro e w9 ⟨rfl,hi,hb,hk⟩;refine ⟨_,rfl,?_⟩;replace BK349:=kB hk NB349_0 BK349;replace HK:=sT hk;replace HB:=aZ (hb);replace HI0:=aZ (hi);clear hb hk hi)|(refine zg (some 12) func37 #[.pointer (some ⟨g,0,none⟩),.int .i64 1,.int .i64 9] ?_;(with_reducible refine (Yc.calls g s0_0 t353 1 9 t354 t355 w0 _ (zi HI0) bw A5.out).mono ?_);rintro e w10 ⟨rfl,hi,hb,hk⟩;refine ⟨_,rfl,?_⟩;replace BK349:=kB hk NB349_0 BK349;replace HK:=sT hk;replace HB:=aZ (hb);replace HI0:=aZ (hi);clear hb hk hi)|(refine zg (some 30) func125 #[.int .i64 t350,.int .i64 t354] ?_;(with_reducible refine (Yb.calls k t350 t354 t356 t357 _ (Tryz.Gl.below HG.out bw) A6.out).mono ?_);rintro e w11 ⟨rfl,hb⟩;refine ⟨_,rfl,?_⟩;replace HI0:=aZ (IsS44.below (zi HI0) hb);replace BK349:=sK BK349 hb;replace HK:=sU hb;replace HB:=sB hb;clear hb;have hnb12:=NB349_0.out;have hnc12:=NB0_349.out;obtain ⟨hcz13_0,hfz13_0⟩:=zc BK349 0 (.string ⟨#[]⟩) rfl;obtain ⟨hcz13_1,hfz13_1⟩:=zc BK349 1 (.string ⟨#[]⟩) rfl))
 refine bodyPost_ret (results_cell_row rfl _ _ gb349 61 #[.string t356,.string t357] (0,0) _ rfl (zp BK349) underlying61 rfl (by kernel_rfl)) rfl ?_
 exact ⟨ze,zi HI0,bw,kk⟩
def YK.f (k:Nat) (s0_0:List Int) (s0_1:Int):Option (ByteArray×ByteArray×Int):=(Yy.f k s0_0 s0_1).bind fun bt377=>((Y4.f s0_0 bt377.2.2 12).bind fun bt381=>(if bt381.1=0 then (some ((⟨#[]⟩:ByteArray),(⟨#[]⟩:ByteArray),bt381.2)) else (if bt381.1=1 then (if 1+bt377.1.size≤9223372036854775807 then (some ((⟨#[48]⟩:ByteArray)++bt377.1,bt377.2.1,bt381.2)) else (none)) else (if bt381.1=2 then (if bt377.2.1.size+1≤9223372036854775807 then (some (bt377.1,bt377.2.1++(⟨#[48]⟩:ByteArray),bt381.2)) else (none)) else (if bt381.1=3 then (if 1+bt377.1.size≤9223372036854775807 then (some ((⟨#[45]⟩:ByteArray)++bt377.1,bt377.2.1,bt381.2)) else (none)) else (if bt381.1=4 then (if 1+bt377.2.1.size≤9223372036854775807 then (some (bt377.1,(⟨#[45]⟩:ByteArray)++bt377.2.1,bt381.2)) else (none)) else (if bt381.1=5 then (some (bt377.2.1,bt377.1,bt381.2)) else (if bt381.1=6 then (if bt377.1.size+1≤9223372036854775807 then (some (bt377.1++(⟨#[120]⟩:ByteArray),bt377.2.1,bt381.2)) else (none)) else (some (bt377.1,bt377.2.1,bt381.2))))))))))
theorem YK.calls (k:Nat) (g:Nat) (s0_0:List Int) (s0_1:Int) (r1:ByteArray) (r2:ByteArray) (r3:Int) (w0 w:World) (hI:IsS44 w0 w g s0_0 s0_1) (hB:Below w0.heap.size w0 w) (hG:Tryz.Gl w0) (h:YK.f k s0_0 s0_1=some (r1,r2,r3)) :
  Calls Tryz.prog 52 #[.pointer (some ⟨g,0,none⟩)] w fun e w'=>e = .returned (.agg #[.string r1,.string r2])∧IsS44 w0 w' g s0_0 r3∧Below w0.heap.size w0 w'∧KeepBut w w' g none:=by
 have hu61:=underlying61
 have HG:=aZ hG
 clear hG
 have HI0:=aZ hI
 have HK:=aZ (KeepBut.refl w g none)
 have HL:=aZ hB.size
 clear hI
 have HW0:=aZ hB.size
 have HB:=aZ hB
 clear hB
 have H:=h
 unfold YK.f at H
 clear h
 obtain ⟨⟨t377,t378,t379⟩,A2,H⟩:=zB H
 (try dsimp only at H)
 obtain ⟨⟨t381,t382⟩,A3,H⟩:=zB H
 (try dsimp only at H)
 by_cases c4:t381=0
 case neg=>
  rw [if_neg c4] at H
  obtain ⟨c4b0,c4b1⟩:=zX c4
  by_cases c14:t381=1
  case neg=>
   rw [if_neg c14] at H
   obtain ⟨c14b0,c14b1⟩:=zX c14
   by_cases c26:t381=2
   case neg=>
    rw [if_neg c26] at H
    obtain ⟨c26b0,c26b1⟩:=zX c26
    by_cases c38:t381=3
    case neg=>
     rw [if_neg c38] at H
     obtain ⟨c38b0,c38b1⟩:=zX c38
     by_cases c50:t381=4
     case neg=>
      rw [if_neg c50] at H
      obtain ⟨c50b0,c50b1⟩:=zX c50
      by_cases c62:t381=5
      case neg=>
       rw [if_neg c62] at H
       obtain ⟨c62b0,c62b1⟩:=zX c62
       by_cases c73:t381=6
       case neg=>
        rw [if_neg c73] at H
        obtain ⟨c73b0,c73b1⟩:=zX c73
        obtain ⟨rfl,rfl,rfl⟩:=zo3 H
        go_enter func52,ntmps52
        go_wp2_with (first|(refine box_ev 2 #[.string ⟨#[]⟩,.string ⟨#[]⟩] 61 ?_;intro gb376 hg w85 hbox hb;replace HB:=sB hb;have BK376:=aZ hbox;have GW376:=sE hg;have GE376:=zW HW0 hg;replace HK:=sU hb;have NB0_376:=aZ ((by rw [hg];exact Nat.ne_of_lt (IsS44.lt (show IsS44 w0 _ g s0_0 s0_1 from zi HI0)):g≠gb376));have NB376_0:=aZ ((by rw [hg];exact Nat.ne_of_gt (IsS44.lt (show IsS44 w0 _ g s0_0 s0_1 from zi HI0)):gb376≠g));replace HI0:=aZ (IsS44.below (zi HI0) hb);clear hb hbox hg)|(refine zg (some 5) func72 #[.pointer (some ⟨g,0,none⟩)] ?_;(with_reducible refine (Yy.calls k g s0_0 s0_1 t377 t378 t379 w0 _ (zi HI0) bw HG.out A2.out).mono ?_);rintro e w86 ⟨rfl,hi,hb,hk⟩;refine ⟨_,rfl,?_⟩;replace BK376:=kB hk NB376_0 BK376;replace HK:=sT hk;replace HB:=aZ (hb);replace HI0:=aZ (hi);clear hb hk hi)|(refine box_ev 3 #[.string ⟨#[]⟩,.string ⟨#[]⟩] 61 ?_;intro gb380 hg w87 hbox hb;replace HB:=sB hb;have BK380:=aZ hbox;have GW380:=sE hg;have GE380:=zW HW0 hg;replace HK:=sU hb;obtain ⟨NB376_380,NB380_376,BK376⟩:=sX hg hb BK376;have NB0_380:=aZ ((by rw [hg];exact Nat.ne_of_lt (IsS44.lt (show IsS44 w0 _ g s0_0 t379 from zi HI0)):g≠gb380));have NB380_0:=aZ ((by rw [hg];exact Nat.ne_of_gt (IsS44.lt (show IsS44 w0 _ g s0_0 t379 from zi HI0)):gb380≠g));replace HI0:=aZ (IsS44.below (zi HI0) hb);clear hb hbox hg;have hnb88:=NB380_376.out;have hnc88:=NB376_380.out;have hnb89:=NB380_0.out;have hnc89:=NB0_380.out;obtain ⟨hcz90_0,hfz90_0⟩:=zc BK380 0 (.string ⟨#[]⟩) rfl;obtain ⟨hcz90_1,hfz90_1⟩:=zc BK380 1 (.string ⟨#[]⟩) rfl)|(refine zg (some 7) func33 #[.pointer (some ⟨g,0,none⟩),.int .i64 12] ?_;(with_reducible refine (Y4.calls g s0_0 t379 12 t381 t382 w0 _ (zi HI0) bw A3.out).mono ?_);rintro e w91 ⟨rfl,hi,hb,hk⟩;refine ⟨_,rfl,?_⟩;replace BK376:=aZ (KeepBut.blk hk (g':=gb376) (o:=.cells #[.string ⟨#[]⟩,.string ⟨#[]⟩] 61 (0,0)) (zq BK376) NB376_0.out (by simp));replace BK380:=aZ (KeepBut.blk hk (g':=gb380) (o:=.cells #[.string t377,.string t378] 61 (0,0)) (zp BK380) NB380_0.out (by simp));replace HK:=sT hk;replace HB:=aZ (hb);replace HI0:=aZ (hi);clear hb hk hi;obtain ⟨hcz92_0,hfz92_0⟩:=zc BK380 0 (.string t377) rfl;obtain ⟨hcz92_1,hfz92_1⟩:=zc BK380 1 (.string t378) rfl;have hnb93:=NB376_0.out;have hnc93:=NB0_376.out;obtain ⟨hcz94_0,hfz94_0⟩:=zc BK376 0 (.string ⟨#[]⟩) rfl;obtain ⟨hcz94_1,hfz94_1⟩:=zc BK376 1 (.string ⟨#[]⟩) rfl))
        refine bodyPost_ret (results_cell_row rfl _ _ gb376 61 #[.string t377,.string t378] (0,0) _ rfl (zp BK376) underlying61 rfl (by kernel_rfl)) rfl ?_
        exact ⟨ze,zi HI0,bw,kk⟩
       rw [if_pos c73] at H
       obtain ⟨c73b0,c73b1⟩:=zY c73
       clear c73
       by_cases c74:t377.size+1≤9223372036854775807
       case neg=>
        rw [if_neg c74] at H
        cases H
       rw [if_pos c74] at H
       have c74b0:=eq_true c74
       have c74b1:=decide_eq_true c74
       try have c74b2:=eq_false (Nat.not_lt.2 c74)
       obtain ⟨rfl,rfl,rfl⟩:=zo3 H
       go_enter func52,ntmps52
       go_wp2_with (first|(refine box_ev 2 #[.string ⟨#[]⟩,.string ⟨#[]⟩] 61 ?_;intro gb376 hg w75 hbox hb;replace HB:=sB hb;have BK376:=aZ hbox;have GW376:=sE hg;have GE376:=zW HW0 hg;replace HK:=sU hb;have NB0_376:=aZ ((by rw [hg];exact Nat.ne_of_lt (IsS44.lt (show IsS44 w0 _ g s0_0 s0_1 from zi HI0)):g≠gb376));have NB376_0:=aZ ((by rw [hg];exact Nat.ne_of_gt (IsS44.lt (show IsS44 w0 _ g s0_0 s0_1 from zi HI0)):gb376≠g));replace HI0:=aZ (IsS44.below (zi HI0) hb);clear hb hbox hg)|(refine zg (some 5) func72 #[.pointer (some ⟨g,0,none⟩)] ?_;(with_reducible refine (Yy.calls k g s0_0 s0_1 t377 t378 t379 w0 _ (zi HI0) bw HG.out A2.out).mono ?_);rintro e w76 ⟨rfl,hi,hb,hk⟩;refine ⟨_,rfl,?_⟩;replace BK376:=kB hk NB376_0 BK376;replace HK:=sT hk;replace HB:=aZ (hb);replace HI0:=aZ (hi);clear hb hk hi)|(refine box_ev 3 #[.string ⟨#[]⟩,.string ⟨#[]⟩] 61 ?_;intro gb380 hg w77 hbox hb;replace HB:=sB hb;have BK380:=aZ hbox;have GW380:=sE hg;have GE380:=zW HW0 hg;replace HK:=sU hb;obtain ⟨NB376_380,NB380_376,BK376⟩:=sX hg hb BK376;have NB0_380:=aZ ((by rw [hg];exact Nat.ne_of_lt (IsS44.lt (show IsS44 w0 _ g s0_0 t379 from zi HI0)):g≠gb380));have NB380_0:=aZ ((by rw [hg];exact Nat.ne_of_gt (IsS44.lt (show IsS44 w0 _ g s0_0 t379 from zi HI0)):gb380≠g));replace HI0:=aZ (IsS44.below (zi HI0) hb);clear hb hbox hg;have hnb78:=NB380_376.out;have hnc78:=NB376_380.out;have hnb79:=NB380_0.out;have hnc79:=NB0_380.out;obtain ⟨hcz80_0,hfz80_0⟩:=zc BK380 0 (.string ⟨#[]⟩) rfl;obtain ⟨hcz80_1,hfz80_1⟩:=zc BK380 1 (.string ⟨#[]⟩) rfl)|(refine zg (some 7) func33 #[.pointer (some ⟨g,0,none⟩),.int .i64 12] ?_;(with_reducible refine (Y4.calls g s0_0 t379 12 t381 t382 w0 _ (zi HI0) bw A3.out).mono ?_);rintro e w81 ⟨rfl,hi,hb,hk⟩;refine ⟨_,rfl,?_⟩;replace BK376:=aZ (KeepBut.blk hk (g':=gb376) (o:=.cells #[.string ⟨#[]⟩,.string ⟨#[]⟩] 61 (0,0)) (zq BK376) NB376_0.out (by simp));replace BK380:=aZ (KeepBut.blk hk (g':=gb380) (o:=.cells #[.string t377,.string t378] 61 (0,0)) (zp BK380) NB380_0.out (by simp));replace HK:=sT hk;replace HB:=aZ (hb);replace HI0:=aZ (hi);clear hb hk hi;obtain ⟨hcz82_0,hfz82_0⟩:=zc BK380 0 (.string t377) rfl;obtain ⟨hcz82_1,hfz82_1⟩:=zc BK380 1 (.string t378) rfl;have hnb83:=NB376_0.out;have hnc83:=NB0_376.out;obtain ⟨hcz84_0,hfz84_0⟩:=zc BK376 0 (.string ⟨#[]⟩) rfl;obtain ⟨hcz84_1,hfz84_1⟩:=zc BK376 1 (.string ⟨#[]⟩) rfl))
       refine bodyPost_ret (results_cell_row rfl _ _ gb376 61 #[.string (t377++(⟨#[120]⟩:ByteArray)),.string t378] (0,0) _ rfl (zq BK376) underlying61 rfl (by kernel_rfl)) rfl ?_
       exact ⟨ze,zi HI0,bw,kk⟩
      rw [if_pos c62] at H
      obtain ⟨c62b0,c62b1⟩:=zY c62
      clear c62
      obtain ⟨rfl,rfl,rfl⟩:=zo3 H
      go_enter func52,ntmps52
      go_wp2_with (first|(refine box_ev 2 #[.string ⟨#[]⟩,.string ⟨#[]⟩] 61 ?_;intro gb376 hg w63 hbox hb;replace HB:=sB hb;have BK376:=aZ hbox;have GW376:=sE hg;have GE376:=zW HW0 hg;replace HK:=sU hb;have NB0_376:=aZ ((by rw [hg];exact Nat.ne_of_lt (IsS44.lt (show IsS44 w0 _ g s0_0 s0_1 from zi HI0)):g≠gb376));have NB376_0:=aZ ((by rw [hg];exact Nat.ne_of_gt (IsS44.lt (show IsS44 w0 _ g s0_0 s0_1 from zi HI0)):gb376≠g));replace HI0:=aZ (IsS44.below (zi HI0) hb);clear hb hbox hg)|(refine zg (some 5) func72 #[.pointer (some ⟨g,0,none⟩)] ?_;(with_reducible refine (Yy.calls k g s0_0 s0_1 t377 t378 t379 w0 _ (zi HI0) bw HG.out A2.out).mono ?_);rintro e w64 ⟨rfl,hi,hb,hk⟩;refine ⟨_,rfl,?_⟩;replace BK376:=kB hk NB376_0 BK376;replace HK:=sT hk;replace HB:=aZ (hb);replace HI0:=aZ (hi);clear hb hk hi)|(refine box_ev 3 #[.string ⟨#[]⟩,.string ⟨#[]⟩] 61 ?_;intro gb380 hg w65 hbox hb;replace HB:=sB hb;have BK380:=aZ hbox;have GW380:=sE hg;have GE380:=zW HW0 hg;replace HK:=sU hb;obtain ⟨NB376_380,NB380_376,BK376⟩:=sX hg hb BK376;have NB0_380:=aZ ((by rw [hg];exact Nat.ne_of_lt (IsS44.lt (show IsS44 w0 _ g s0_0 t379 from zi HI0)):g≠gb380));have NB380_0:=aZ ((by rw [hg];exact Nat.ne_of_gt (IsS44.lt (show IsS44 w0 _ g s0_0 t379 from zi HI0)):gb380≠g));replace HI0:=aZ (IsS44.below (zi HI0) hb);clear hb hbox hg;have hnb66:=NB380_376.out;have hnc66:=NB376_380.out;have hnb67:=NB380_0.out;have hnc67:=NB0_380.out;obtain ⟨hcz68_0,hfz68_0⟩:=zc BK380 0 (.string ⟨#[]⟩) rfl;obtain ⟨hcz68_1,hfz68_1⟩:=zc BK380 1 (.string ⟨#[]⟩) rfl)|(refine zg (some 7) func33 #[.pointer (some ⟨g,0,none⟩),.int .i64 12] ?_;(with_reducible refine (Y4.calls g s0_0 t379 12 t381 t382 w0 _ (zi HI0) bw A3.out).mono ?_);rintro e w69 ⟨rfl,hi,hb,hk⟩;refine ⟨_,rfl,?_⟩;replace BK376:=aZ (KeepBut.blk hk (g':=gb376) (o:=.cells #[.string ⟨#[]⟩,.string ⟨#[]⟩] 61 (0,0)) (zq BK376) NB376_0.out (by simp));replace BK380:=aZ (KeepBut.blk hk (g':=gb380) (o:=.cells #[.string t377,.string t378] 61 (0,0)) (zp BK380) NB380_0.out (by simp));replace HK:=sT hk;replace HB:=aZ (hb);replace HI0:=aZ (hi);clear hb hk hi;obtain ⟨hcz70_0,hfz70_0⟩:=zc BK380 0 (.string t377) rfl;obtain ⟨hcz70_1,hfz70_1⟩:=zc BK380 1 (.string t378) rfl;have hnb71:=NB376_0.out;have hnc71:=NB0_376.out;obtain ⟨hcz72_0,hfz72_0⟩:=zc BK376 0 (.string ⟨#[]⟩) rfl;obtain ⟨hcz72_1,hfz72_1⟩:=zc BK376 1 (.string ⟨#[]⟩) rfl))
      refine bodyPost_ret (results_cell_row rfl _ _ gb376 61 #[.string t378,.string t377] (0,0) _ rfl (zq BK376) underlying61 rfl (by kernel_rfl)) rfl ?_
      exact ⟨ze,zi HI0,bw,kk⟩
     rw [if_pos c50] at H
     obtain ⟨c50b0,c50b1⟩:=zY c50
     clear c50
     by_cases c51:1+t378.size≤9223372036854775807
     case neg=>
      rw [if_neg c51] at H
      cases H
     rw [if_pos c51] at H
     have c51b0:=eq_true c51
     have c51b1:=decide_eq_true c51
     try have c51b2:=eq_false (Nat.not_lt.2 c51)
     obtain ⟨rfl,rfl,rfl⟩:=zo3 H
     go_enter func52,ntmps52
     go_wp2_with (first|(refine box_ev 2 #[.string ⟨#[]⟩,.string ⟨#[]⟩] 61 ?_;intro gb376 hg w52 hbox hb;replace HB:=sB hb;have BK376:=aZ hbox;have GW376:=sE hg;have GE376:=zW HW0 hg;replace HK:=sU hb;have NB0_376:=aZ ((by rw [hg];exact Nat.ne_of_lt (IsS44.lt (show IsS44 w0 _ g s0_0 s0_1 from zi HI0)):g≠gb376));have NB376_0:=aZ ((by rw [hg];exact Nat.ne_of_gt (IsS44.lt (show IsS44 w0 _ g s0_0 s0_1 from zi HI0)):gb376≠g));replace HI0:=aZ (IsS44.below (zi HI0) hb);clear hb hbox hg)|(refine zg (some 5) func72 #[.pointer (some ⟨g,0,none⟩)] ?_;(with_reducible refine (Yy.calls k g s0_0 s0_1 t377 t378 t379 w0 _ (zi HI0) bw HG.out A2.out).mono ?_);rintro e w53 ⟨rfl,hi,hb,hk⟩;refine ⟨_,rfl,?_⟩;replace BK376:=kB hk NB376_0 BK376;replace HK:=sT hk;replace HB:=aZ (hb);replace HI0:=aZ (hi);clear hb hk hi)|(refine box_ev 3 #[.string ⟨#[]⟩,.string ⟨#[]⟩] 61 ?_;intro gb380 hg w54 hbox hb;replace HB:=sB hb;have BK380:=aZ hbox;have GW380:=sE hg;have GE380:=zW HW0 hg;replace HK:=sU hb;obtain ⟨NB376_380,NB380_376,BK376⟩:=sX hg hb BK376;have NB0_380:=aZ ((by rw [hg];exact Nat.ne_of_lt (IsS44.lt (show IsS44 w0 _ g s0_0 t379 from zi HI0)):g≠gb380));have NB380_0:=aZ ((by rw [hg];exact Nat.ne_of_gt (IsS44.lt (show IsS44 w0 _ g s0_0 t379 from zi HI0)):gb380≠g));replace HI0:=aZ (IsS44.below (zi HI0) hb);clear hb hbox hg;have hnb55:=NB380_376.out;have hnc55:=NB376_380.out;have hnb56:=NB380_0.out;have hnc56:=NB0_380.out;obtain ⟨hcz57_0,hfz57_0⟩:=zc BK380 0 (.string ⟨#[]⟩) rfl;obtain ⟨hcz57_1,hfz57_1⟩:=zc BK380 1 (.string ⟨#[]⟩) rfl)|(refine zg (some 7) func33 #[.pointer (some ⟨g,0,none⟩),.int .i64 12] ?_;(with_reducible refine (Y4.calls g s0_0 t379 12 t381 t382 w0 _ (zi HI0) bw A3.out).mono ?_);rintro e w58 ⟨rfl,hi,hb,hk⟩;refine ⟨_,rfl,?_⟩;replace BK376:=aZ (KeepBut.blk hk (g':=gb376) (o:=.cells #[.string ⟨#[]⟩,.string ⟨#[]⟩] 61 (0,0)) (zq BK376) NB376_0.out (by simp));replace BK380:=aZ (KeepBut.blk hk (g':=gb380) (o:=.cells #[.string t377,.string t378] 61 (0,0)) (zp BK380) NB380_0.out (by simp));replace HK:=sT hk;replace HB:=aZ (hb);replace HI0:=aZ (hi);clear hb hk hi;obtain ⟨hcz59_0,hfz59_0⟩:=zc BK380 0 (.string t377) rfl;obtain ⟨hcz59_1,hfz59_1⟩:=zc BK380 1 (.string t378) rfl;have hnb60:=NB376_0.out;have hnc60:=NB0_376.out;obtain ⟨hcz61_0,hfz61_0⟩:=zc BK376 0 (.string ⟨#[]⟩) rfl;obtain ⟨hcz61_1,hfz61_1⟩:=zc BK376 1 (.string ⟨#[]⟩) rfl))
     refine bodyPost_ret (results_cell_row rfl _ _ gb376 61 #[.string t377,.string ((⟨#[45]⟩:ByteArray)++t378)] (0,0) _ rfl (zq BK376) underlying61 rfl (by kernel_rfl)) rfl ?_
     exact ⟨ze,zi HI0,bw,kk⟩
    rw [if_pos c38] at H
    obtain ⟨c38b0,c38b1⟩:=zY c38
    clear c38
    by_cases c39:1+t377.size≤9223372036854775807
    case neg=>
     rw [if_neg c39] at H
     cases H
    rw [if_pos c39] at H
    have c39b0:=eq_true c39
    have c39b1:=decide_eq_true c39
    try have c39b2:=eq_false (Nat.not_lt.2 c39)
    obtain ⟨rfl,rfl,rfl⟩:=zo3 H
    go_enter func52,ntmps52
    go_wp2_with (first|(refine box_ev 2 #[.string ⟨#[]⟩,.string ⟨#[]⟩] 61 ?_;intro gb376 hg w40 hbox hb;replace HB:=sB hb;have BK376:=aZ hbox;have GW376:=sE hg;have GE376:=zW HW0 hg;replace HK:=sU hb;have NB0_376:=aZ ((by rw [hg];exact Nat.ne_of_lt (IsS44.lt (show IsS44 w0 _ g s0_0 s0_1 from zi HI0)):g≠gb376));have NB376_0:=aZ ((by rw [hg];exact Nat.ne_of_gt (IsS44.lt (show IsS44 w0 _ g s0_0 s0_1 from zi HI0)):gb376≠g));replace HI0:=aZ (IsS44.below (zi HI0) hb);clear hb hbox hg)|(refine zg (some 5) func72 #[.pointer (some ⟨g,0,none⟩)] ?_;(with_reducible refine (Yy.calls k g s0_0 s0_1 t377 t378 t379 w0 _ (zi HI0) bw HG.out A2.out).mono ?_);rintro e w41 ⟨rfl,hi,hb,hk⟩;refine ⟨_,rfl,?_⟩;replace BK376:=kB hk NB376_0 BK376;replace HK:=sT hk;replace HB:=aZ (hb);replace HI0:=aZ (hi);clear hb hk hi)|(refine box_ev 3 #[.string ⟨#[]⟩,.string ⟨#[]⟩] 61 ?_;intro gb380 hg w42 hbox hb;replace HB:=sB hb;have BK380:=aZ hbox;have GW380:=sE hg;have GE380:=zW HW0 hg;replace HK:=sU hb;obtain ⟨NB376_380,NB380_376,BK376⟩:=sX hg hb BK376;have NB0_380:=aZ ((by rw [hg];exact Nat.ne_of_lt (IsS44.lt (show IsS44 w0 _ g s0_0 t379 from zi HI0)):g≠gb380));have NB380_0:=aZ ((by rw [hg];exact Nat.ne_of_gt (IsS44.lt (show IsS44 w0 _ g s0_0 t379 from zi HI0)):gb380≠g));replace HI0:=aZ (IsS44.below (zi HI0) hb);clear hb hbox hg;have hnb43:=NB380_376.out;have hnc43:=NB376_380.out;have hnb44:=NB380_0.out;have hnc44:=NB0_380.out;obtain ⟨hcz45_0,hfz45_0⟩:=zc BK380 0 (.string ⟨#[]⟩) rfl;obtain ⟨hcz45_1,hfz45_1⟩:=zc BK380 1 (.string ⟨#[]⟩) rfl)|(refine zg (some 7) func33 #[.pointer (some ⟨g,0,none⟩),.int .i64 12] ?_;(with_reducible refine (Y4.calls g s0_0 t379 12 t381 t382 w0 _ (zi HI0) bw A3.out).mono ?_);rintro e w46 ⟨rfl,hi,hb,hk⟩;refine ⟨_,rfl,?_⟩;replace BK376:=aZ (KeepBut.blk hk (g':=gb376) (o:=.cells #[.string ⟨#[]⟩,.string ⟨#[]⟩] 61 (0,0)) (zq BK376) NB376_0.out (by simp));replace BK380:=aZ (KeepBut.blk hk (g':=gb380) (o:=.cells #[.string t377,.string t378] 61 (0,0)) (zp BK380) NB380_0.out (by simp));replace HK:=sT hk;replace HB:=aZ (hb);replace HI0:=aZ (hi);clear hb hk hi;obtain ⟨hcz47_0,hfz47_0⟩:=zc BK380 0 (.string t377) rfl;obtain ⟨hcz47_1,hfz47_1⟩:=zc BK380 1 (.string t378) rfl;have hnb48:=NB376_0.out;have hnc48:=NB0_376.out;obtain ⟨hcz49_0,hfz49_0⟩:=zc BK376 0 (.string ⟨#[]⟩) rfl;obtain ⟨hcz49_1,hfz49_1⟩:=zc BK376 1 (.string ⟨#[]⟩) rfl))
    refine bodyPost_ret (results_cell_row rfl _ _ gb376 61 #[.string ((⟨#[45]⟩:ByteArray)++t377),.string t378] (0,0) _ rfl (zq BK376) underlying61 rfl (by kernel_rfl)) rfl ?_
    exact ⟨ze,zi HI0,bw,kk⟩
   rw [if_pos c26] at H
   obtain ⟨c26b0,c26b1⟩:=zY c26
   clear c26
   by_cases c27:t378.size+1≤9223372036854775807
   case neg=>
    rw [if_neg c27] at H
    cases H
   rw [if_pos c27] at H
   have c27b0:=eq_true c27
   have c27b1:=decide_eq_true c27
   try have c27b2:=eq_false (Nat.not_lt.2 c27)
   obtain ⟨rfl,rfl,rfl⟩:=zo3 H
   go_enter func52,ntmps52
   go_wp2_with (first|(refine box_ev 2 #[.string ⟨#[]⟩,.string ⟨#[]⟩] 61 ?_;intro gb376 hg w28 hbox hb;replace HB:=sB hb;have BK376:=aZ hbox;have GW376:=sE hg;have GE376:=zW HW0 hg;replace HK:=sU hb;have NB0_376:=aZ ((by rw [hg];exact Nat.ne_of_lt (IsS44.lt (show IsS44 w0 _ g s0_0 s0_1 from zi HI0)):g≠gb376));have NB376_0:=aZ ((by rw [hg];exact Nat.ne_of_gt (IsS44.lt (show IsS44 w0 _ g s0_0 s0_1 from zi HI0)):gb376≠g));replace HI0:=aZ (IsS44.below (zi HI0) hb);clear hb hbox hg)|(refine zg (some 5) func72 #[.pointer (some ⟨g,0,none⟩)] ?_;(with_reducible refine (Yy.calls k g s0_0 s0_1 t377 t378 t379 w0 _ (zi HI0) bw HG.out A2.out).mono ?_);rintro e w29 ⟨rfl,hi,hb,hk⟩;refine ⟨_,rfl,?_⟩;replace BK376:=kB hk NB376_0 BK376;replace HK:=sT hk;replace HB:=aZ (hb);replace HI0:=aZ (hi);clear hb hk hi)|(refine box_ev 3 #[.string ⟨#[]⟩,.string ⟨#[]⟩] 61 ?_;intro gb380 hg w30 hbox hb;replace HB:=sB hb;have BK380:=aZ hbox;have GW380:=sE hg;have GE380:=zW HW0 hg;replace HK:=sU hb;obtain ⟨NB376_380,NB380_376,BK376⟩:=sX hg hb BK376;have NB0_380:=aZ ((by rw [hg];exact Nat.ne_of_lt (IsS44.lt (show IsS44 w0 _ g s0_0 t379 from zi HI0)):g≠gb380));have NB380_0:=aZ ((by rw [hg];exact Nat.ne_of_gt (IsS44.lt (show IsS44 w0 _ g s0_0 t379 from zi HI0)):gb380≠g));replace HI0:=aZ (IsS44.below (zi HI0) hb);clear hb hbox hg;have hnb31:=NB380_376.out;have hnc31:=NB376_380.out;have hnb32:=NB380_0.out;have hnc32:=NB0_380.out;obtain ⟨hcz33_0,hfz33_0⟩:=zc BK380 0 (.string ⟨#[]⟩) rfl;obtain ⟨hcz33_1,hfz33_1⟩:=zc BK380 1 (.string ⟨#[]⟩) rfl)|(refine zg (some 7) func33 #[.pointer (some ⟨g,0,none⟩),.int .i64 12] ?_;(with_reducible refine (Y4.calls g s0_0 t379 12 t381 t382 w0 _ (zi HI0) bw A3.out).mono ?_);rintro e w34 ⟨rfl,hi,hb,hk⟩;refine ⟨_,rfl,?_⟩;replace BK376:=aZ (KeepBut.blk hk (g':=gb376) (o:=.cells #[.string ⟨#[]⟩,.string ⟨#[]⟩] 61 (0,0)) (zq BK376) NB376_0.out (by simp));replace BK380:=aZ (KeepBut.blk hk (g':=gb380) (o:=.cells #[.string t377,.string t378] 61 (0,0)) (zp BK380) NB380_0.out (by simp));replace HK:=sT hk;replace HB:=aZ (hb);replace HI0:=aZ (hi);clear hb hk hi;obtain ⟨hcz35_0,hfz35_0⟩:=zc BK380 0 (.string t377) rfl;obtain ⟨hcz35_1,hfz35_1⟩:=zc BK380 1 (.string t378) rfl;have hnb36:=NB376_0.out;have hnc36:=NB0_376.out;obtain ⟨hcz37_0,hfz37_0⟩:=zc BK376 0 (.string ⟨#[]⟩) rfl;obtain ⟨hcz37_1,hfz37_1⟩:=zc BK376 1 (.string ⟨#[]⟩) rfl))
   refine bodyPost_ret (results_cell_row rfl _ _ gb376 61 #[.string t377,.string (t378++(⟨#[48]⟩:ByteArray))] (0,0) _ rfl (zq BK376) underlying61 rfl (by kernel_rfl)) rfl ?_
   exact ⟨ze,zi HI0,bw,kk⟩
  rw [if_pos c14] at H
  obtain ⟨c14b0,c14b1⟩:=zY c14
  clear c14
  by_cases c15:1+t377.size≤9223372036854775807
  case neg=>
   rw [if_neg c15] at H
   cases H
  rw [if_pos c15] at H
  have c15b0:=eq_true c15
  have c15b1:=decide_eq_true c15
  try have c15b2:=eq_false (Nat.not_lt.2 c15)
  obtain ⟨rfl,rfl,rfl⟩:=zo3 H
  go_enter func52,ntmps52
  go_wp2_with (first|(refine box_ev 2 #[.string ⟨#[]⟩,.string ⟨#[]⟩] 61 ?_;intro gb376 hg w16 hbox hb;replace HB:=sB hb;have BK376:=aZ hbox;have GW376:=sE hg;have GE376:=zW HW0 hg;replace HK:=sU hb;have NB0_376:=aZ ((by rw [hg];exact Nat.ne_of_lt (IsS44.lt (show IsS44 w0 _ g s0_0 s0_1 from zi HI0)):g≠gb376));have NB376_0:=aZ ((by rw [hg];exact Nat.ne_of_gt (IsS44.lt (show IsS44 w0 _ g s0_0 s0_1 from zi HI0)):gb376≠g));replace HI0:=aZ (IsS44.below (zi HI0) hb);clear hb hbox hg)|(refine zg (some 5) func72 #[.pointer (some ⟨g,0,none⟩)] ?_;(with_reducible refine (Yy.calls k g s0_0 s0_1 t377 t378 t379 w0 _ (zi HI0) bw HG.out A2.out).mono ?_);rintro e w17 ⟨rfl,hi,hb,hk⟩;refine ⟨_,rfl,?_⟩;replace BK376:=kB hk NB376_0 BK376;replace HK:=sT hk;replace HB:=aZ (hb);replace HI0:=aZ (hi);clear hb hk hi)|(refine box_ev 3 #[.string ⟨#[]⟩,.string ⟨#[]⟩] 61 ?_;intro gb380 hg w18 hbox hb;replace HB:=sB hb;have BK380:=aZ hbox;have GW380:=sE hg;have GE380:=zW HW0 hg;replace HK:=sU hb;obtain ⟨NB376_380,NB380_376,BK376⟩:=sX hg hb BK376;have NB0_380:=aZ ((by rw [hg];exact Nat.ne_of_lt (IsS44.lt (show IsS44 w0 _ g s0_0 t379 from zi HI0)):g≠gb380));have NB380_0:=aZ ((by rw [hg];exact Nat.ne_of_gt (IsS44.lt (show IsS44 w0 _ g s0_0 t379 from zi HI0)):gb380≠g));replace HI0:=aZ (IsS44.below (zi HI0) hb);clear hb hbox hg;have hnb19:=NB380_376.out;have hnc19:=NB376_380.out;have hnb20:=NB380_0.out;have hnc20:=NB0_380.out;obtain ⟨hcz21_0,hfz21_0⟩:=zc BK380 0 (.string ⟨#[]⟩) rfl;obtain ⟨hcz21_1,hfz21_1⟩:=zc BK380 1 (.string ⟨#[]⟩) rfl)|(refine zg (some 7) func33 #[.pointer (some ⟨g,0,none⟩),.int .i64 12] ?_;(with_reducible refine (Y4.calls g s0_0 t379 12 t381 t382 w0 _ (zi HI0) bw A3.out).mono ?_);rintro e w22 ⟨rfl,hi,hb,hk⟩;refine ⟨_,rfl,?_⟩;replace BK376:=aZ (KeepBut.blk hk (g':=gb376) (o:=.cells #[.string ⟨#[]⟩,.string ⟨#[]⟩] 61 (0,0)) (zq BK376) NB376_0.out (by simp));replace BK380:=aZ (KeepBut.blk hk (g':=gb380) (o:=.cells #[.string t377,.string t378] 61 (0,0)) (zp BK380) NB380_0.out (by simp));replace HK:=sT hk;replace HB:=aZ (hb);replace HI0:=aZ (hi);clear hb hk hi;obtain ⟨hcz23_0,hfz23_0⟩:=zc BK380 0 (.string t377) rfl;obtain ⟨hcz23_1,hfz23_1⟩:=zc BK380 1 (.string t378) rfl;have hnb24:=NB376_0.out;have hnc24:=NB0_376.out;obtain ⟨hcz25_0,hfz25_0⟩:=zc BK376 0 (.string ⟨#[]⟩) rfl;obtain ⟨hcz25_1,hfz25_1⟩:=zc BK376 1 (.string ⟨#[]⟩) rfl))
  refine bodyPost_ret (results_cell_row rfl _ _ gb376 61 #[.string ((⟨#[48]⟩:ByteArray)++t377),.string t378] (0,0) _ rfl (zq BK376) underlying61 rfl (by kernel_rfl)) rfl ?_
  exact ⟨ze,zi HI0,bw,kk⟩
 rw [if_pos c4] at H
 obtain ⟨c4b0,c4b1⟩:=zY c4
 clear c4
 obtain ⟨rfl,rfl,rfl⟩:=zo3 H
 go_enter func52,ntmps52
 go_wp2_with (first|(refine box_ev 2 #[.string ⟨#[]⟩,.string ⟨#[]⟩] 61 ?_;intro gb376 hg w5 hbox hb;replace HB:=sB hb;have BK376:=aZ hbox;have GW376:=sE hg;have GE376:=zW HW0 hg;replace HK:=sU hb;have NB0_376:=aZ ((by rw [hg];exact Nat.ne_of_lt (IsS44.lt (show IsS44 w0 _ g s0_0 s0_1 from zi HI0)):g≠gb376));have NB376_0:=aZ ((by rw [hg];exact Nat.ne_of_gt (IsS44.lt (show IsS44 w0 _ g s0_0 s0_1 from zi HI0)):gb376≠g));replace HI0:=aZ (IsS44.below (zi HI0) hb);clear hb hbox hg)|(refine zg (some 5) func72 #[.pointer (some ⟨g,0,none⟩)] ?_;(with_reducible refine (Yy.calls k g s0_0 s0_1 t377 t378 t379 w0 _ (zi HI0) bw HG.out A2.out).mono ?_);rintro e w6 ⟨rfl,hi,hb,hk⟩;refine ⟨_,rfl,?_⟩;replace BK376:=kB hk NB376_0 BK376;replace HK:=sT hk;replace HB:=aZ (hb);replace HI0:=aZ (hi);clear hb hk hi)|(refine box_ev 3 #[.string ⟨#[]⟩,.string ⟨#[]⟩] 61 ?_;intro gb380 hg w7 hbox hb;replace HB:=sB hb;have BK380:=aZ hbox;have GW380:=sE hg;have GE380:=zW HW0 hg;replace HK:=sU hb;obtain ⟨NB376_380,NB380_376,BK376⟩:=sX hg hb BK376;have NB0_380:=aZ ((by rw [hg];exact Nat.ne_of_lt (IsS44.lt (show IsS44 w0 _ g s0_0 t379 from zi HI0)):g≠gb380));have NB380_0:=aZ ((by rw [hg];exact Nat.ne_of_gt (IsS44.lt (show IsS44 w0 _ g s0_0 t379 from zi HI0)):gb380≠g));replace HI0:=aZ (IsS44.below (zi HI0) hb);clear hb hbox hg;have hnb8:=NB380_376.out;have hnc8:=NB376_380.out;have hnb9:=NB380_0.out;have hnc9:=NB0_380.out;obtain ⟨hcz10_0,hfz10_0⟩:=zc BK380 0 (.string ⟨#[]⟩) rfl;obtain ⟨hcz10_1,hfz10_1⟩:=zc BK380 1 (.string ⟨#[]⟩) rfl)|(refine zg (some 7) func33 #[.pointer (some ⟨g,0,none⟩),.int .i64 12] ?_;(with_reducible refine (Y4.calls g s0_0 t379 12 t381 t382 w0 _ (zi HI0) bw A3.out).mono ?_);rintro e w11 ⟨rfl,hi,hb,hk⟩;refine ⟨_,rfl,?_⟩;replace BK376:=aZ (KeepBut.blk hk (g':=gb376) (o:=.cells #[.string ⟨#[]⟩,.string ⟨#[]⟩] 61 (0,0)) (zq BK376) NB376_0.out (by simp));replace BK380:=aZ (KeepBut.blk hk (g':=gb380) (o:=.cells #[.string t377,.string t378] 61 (0,0)) (zp BK380) NB380_0.out (by simp));replace HK:=sT hk;replace HB:=aZ (hb);replace HI0:=aZ (hi);clear hb hk hi;have hnb12:=NB376_0.out;have hnc12:=NB0_376.out;obtain ⟨hcz13_0,hfz13_0⟩:=zc BK376 0 (.string ⟨#[]⟩) rfl;obtain ⟨hcz13_1,hfz13_1⟩:=zc BK376 1 (.string ⟨#[]⟩) rfl))
 refine bodyPost_ret (results_cell_row rfl _ _ gb376 61 #[.string ⟨#[]⟩,.string ⟨#[]⟩] (0,0) _ rfl (zp BK376) underlying61 rfl (by kernel_rfl)) rfl ?_
 exact ⟨ze,zi HI0,bw,kk⟩
def Yn.l0:Nat→ByteArray→Int→Int→Option (Bool)
 | 0,_,_,_=>none
 | k+1,x0,x5,x6=>if x6<x5 then (if 0≤x6 then (if x6<(x0.size:Int) then (if (bt x0 x6)<48 then (some false) else (if (bt x0 x6)>57 then (some false) else (Yn.l0 k x0 x5 (wrap64 (x6+1))))) else (none)) else (none)) else (if x0.toList=([]:List UInt8) then (some false) else (if 0<(x0.size:Int) then (if (bt x0 0)=48 then (some (x0.toList==([48]:List UInt8))) else (some true)) else (none)))
def Yn.f (k:Nat) (a0:ByteArray):Option (Bool):=Yn.l0 k a0 (a0.size:Int) 0
theorem Yn.calls (k:Nat) (a0:ByteArray) (r:Bool) (w:World) (h:Yn.f k a0=some r) :
  Calls Tryz.prog 103 #[.string a0] w fun e w'=>e = .returned (.bool r)∧Drawn0 w w':=by
 have H:=h
 unfold Yn.f at H
 clear h
 have H':=aZ H
 clear H
 go_enter func103,ntmps103
 go_wp2
 go_loopg [6] k (fun kq v6 w'=>∃ (x6_1:Int),v6 = .int .i64 x6_1∧Aside0 (Yn.l0 kq a0 (a0.size:Int) x6_1=some r)∧Aside0 (kq≤k)∧Drawn0 w w')
 case atStart=>exact ⟨(0),zs,H',⟨Nat.le_refl _⟩,by repeat (first|exact Drawn0.refl _|apply Drawn0.step)⟩
 case round =>
  clear H'
  try clear c1
  obtain ⟨x6_1,rfl,HA,HK1,⟨m1,rfl⟩⟩:=hrel
  cases gk with
  | zero=>exact absurd HA.out (by simp [Yn.l0])
  | succ k1 =>
   have H:=HA.out
   clear HA
   simp only [Yn.l0] at H
   by_cases c2:x6_1<(a0.size:Int)
   case neg=>
    rw [if_neg c2] at H
    have c2b0:=decide_eq_false c2
    clear c2
    by_cases c9:a0.toList=([]:List UInt8)
    case neg=>
     rw [if_neg c9] at H
     obtain ⟨c9b0,c9b1⟩:=zX c9
     by_cases c10:0<(a0.size:Int)
     case neg=>
      rw [if_neg c10] at H
      cases H
     rw [if_pos c10] at H
     have c10b0:=decide_eq_true c10
     have c10b1:decide (0<a0.size)=true:=decide_eq_true (by omega)
     clear c10
     by_cases c12:(bt a0 0)=48
     case neg=>
      rw [if_neg c12] at H
      obtain ⟨c12b0,c12b1⟩:=zX c12
      obtain rfl:=Option.some.inj H
      have p11:0≤(0:Int):=(by omega)
      have q11:0<a0.size:=(by have:(0:Int)<(a0.size:Int):=zd;omega)
      have hx11:∀ h:0<a0.size,((a0[0]'h).toNat:Int)=bt a0 0:=bt_at a0 0
      clear p11
      have qi11:(0<(a0.size:Int))=True:=eq_true (zd)
      replace q11:=eq_true q11
      go_wp2
      go_ret
      exact ⟨zs,by repeat (first|exact Drawn0.refl _|apply Drawn0.step)⟩
     rw [if_pos c12] at H
     obtain ⟨c12b0,c12b1⟩:=zY c12
     clear c12
     obtain rfl:=Option.some.inj H
     have p11:0≤(0:Int):=(by omega)
     have q11:0<a0.size:=(by have:(0:Int)<(a0.size:Int):=zd;omega)
     have hx11:∀ h:0<a0.size,((a0[0]'h).toNat:Int)=bt a0 0:=bt_at a0 0
     clear p11
     have qi11:(0<(a0.size:Int))=True:=eq_true (zd)
     replace q11:=eq_true q11
     go_wp2
     go_ret
     exact ⟨zs,by repeat (first|exact Drawn0.refl _|apply Drawn0.step)⟩
    rw [if_pos c9] at H
    obtain ⟨c9b0,c9b1⟩:=zY c9
    clear c9
    obtain rfl:=Option.some.inj H
    go_wp2
    go_ret
    exact ⟨zs,by repeat (first|exact Drawn0.refl _|apply Drawn0.step)⟩
   rw [if_pos c2] at H
   have c2b0:=decide_eq_true c2
   clear c2
   by_cases c3:0≤x6_1
   case neg=>
    rw [if_neg c3] at H
    cases H
   rw [if_pos c3] at H
   have c3b0:=decide_eq_true c3
   clear c3
   by_cases c4:x6_1<(a0.size:Int)
   case neg=>
    rw [if_neg c4] at H
    cases H
   rw [if_pos c4] at H
   have c4b0:=decide_eq_true c4
   clear c4
   by_cases c6:(bt a0 x6_1)<48
   case neg=>
    rw [if_neg c6] at H
    have c6b0:=decide_eq_false c6
    clear c6
    by_cases c8:(bt a0 x6_1)>57
    case neg=>
     rw [if_neg c8] at H
     have c8b0:=decide_eq_false c8
     clear c8
     have H':=aZ H
     clear H
     have p5:0≤(x6_1:Int):=zd
     have q5:x6_1<(a0.size:Int):=zd
     have hx5:=bt_at a0 x6_1
     replace p5:=eq_true p5
     replace q5:=eq_true q5
     have p7:0≤(x6_1:Int):=zd
     have q7:x6_1<(a0.size:Int):=zd
     have hx7:=bt_at a0 x6_1
     replace p7:=eq_true p7
     replace q7:=eq_true q7
     go_wp2
     go_roundg k1
     case measure=>have:=HK1.out;omega
     case rel=>exact ⟨(wrap64 (x6_1+1)),zs,H',⟨by have:=HK1.out;omega⟩,by repeat (first|exact Drawn0.refl _|apply Drawn0.step)⟩
    rw [if_pos c8] at H
    have c8b0:=decide_eq_true c8
    clear c8
    obtain rfl:=Option.some.inj H
    have p5:0≤(x6_1:Int):=zd
    have q5:x6_1<(a0.size:Int):=zd
    have hx5:=bt_at a0 x6_1
    replace p5:=eq_true p5
    replace q5:=eq_true q5
    have p7:0≤(x6_1:Int):=zd
    have q7:x6_1<(a0.size:Int):=zd
    have hx7:=bt_at a0 x6_1
    replace p7:=eq_true p7
    replace q7:=eq_true q7
    go_wp2
    go_ret
    exact ⟨zs,by repeat (first|exact Drawn0.refl _|apply Drawn0.step)⟩
   rw [if_pos c6] at H
   have c6b0:=decide_eq_true c6
   clear c6
   obtain rfl:=Option.some.inj H
   have p5:0≤(x6_1:Int):=zd
   have q5:x6_1<(a0.size:Int):=zd
   have hx5:=bt_at a0 x6_1
   replace p5:=eq_true p5
   replace q5:=eq_true q5
   go_wp2
   go_ret
   exact ⟨zs,by repeat (first|exact Drawn0.refl _|apply Drawn0.step)⟩
def Y5.l0:Nat→Int→List Int→Option (List Int)
 | 0,_,_=>none
 | k+1,x0,x3=>if x0 > 0 then (if x3.length<17592186044416 then (Y5.l0 k (IntKind.u64.wrap (Int.tdiv x0 10000)) (x3++[wrap64 (Int.tmod x0 10000)])) else (none)) else (some x3)
def Y5.f (k:Nat) (a0:Int):Option (List Int):=Y5.l0 k a0 ([]:List Int)
theorem Y5.mono_l:∀ k,(∀ y0 y1,LeO (Y5.l0 k y0 y1) (Y5.l0 (k+1) y0 y1))
 | 0=>fun _ _ r h=>by simp [Y5.l0] at h
 | k+1=>by
  have ih0:=Y5.mono_l k
  ·intro y0 y1
   unfold Y5.l0
   exact zM
theorem Y5.mono:∀ a0 k,LeO (Y5.f k a0) (Y5.f (k+1) a0):=by
 intro a0 k
 have ih0:=Y5.mono_l k
 unfold Y5.f
 exact zM
theorem Y5.calls (k:Nat) (a0:Int) (r:List Int) (w:World) (h:Y5.f k a0=some r) :
  Calls Tryz.prog 98 #[.int .u64 a0] w fun e w'=>∃ v0_:Value,e = .returned (v0_)∧Kd.R (Kd.int .i64) 3 w' w.heap.size (fun _=>True) v0_ r∧Below w.heap.size w w':=by
 have HB:=aZ (Below.refl w.heap.size w)
 have H:=h
 unfold Y5.f at H
 clear h
 have H':=aZ H
 clear H
 go_enter func98,ntmps98
 go_wp2
 go_loopg [0,3] k (fun kq v0 v3 w'=>∃ (x0_1:Int) (x3_1:List Int),v0 = .int .u64 x0_1∧Aside0 (Y5.l0 kq x0_1 x3_1=some r)∧Aside0 (kq≤k)∧Aside0 (Kd.R (Kd.int .i64) 3 w' w.heap.size (fun _=>True) v3 x3_1)∧Aside0 (Below w.heap.size w w'))
 case atStart=>exact ⟨(a0),(([]:List Int)),zs,H',⟨Nat.le_refl _⟩,⟨by first|exact Kd.R_nil _ _ _ _ _|exact Kd.N_nil _ _ _ _ _|exact Kd.V_nil _ _ _ _ _|exact Kd.Q_nil _ _ _ _ _|exact Kd.S_nil _ _ _ _ _⟩,⟨bw⟩⟩
 case round =>
  clear H'
  obtain ⟨x0_1,x3_1,rfl,HA,HK1,HO_3,HB⟩:=hrel
  cases gk with
  | zero=>exact absurd HA.out (by simp [Y5.l0])
  | succ k1 =>
   have H:=HA.out
   clear HA
   simp only [Y5.l0] at H
   by_cases c2:x0_1 > 0
   case neg=>
    rw [if_neg c2] at H
    have c2b0:=decide_eq_false c2
    clear c2
    obtain rfl:=Option.some.inj H
    go_wp2
    go_ret
    exact ⟨_,ze,zR HO_3,bw⟩
   rw [if_pos c2] at H
   have c2b0:=decide_eq_true c2
   clear c2
   by_cases c3:x3_1.length<17592186044416
   case neg=>
    rw [if_neg c3] at H
    cases H
   rw [if_pos c3] at H
   have LMc3:=aZ c3
   clear c3
   obtain ⟨y383,hy383⟩:∃ y_:List Int,y_=(x3_1++[wrap64 (Int.tmod x0_1 10000)]):=⟨_,rfl⟩
   replace H:(Y5.l0 k1 (IntKind.u64.wrap (Int.tdiv x0_1 10000)) y383)=some r:=zy hy383 H
   have Ny383:=aZ hy383
   clear hy383
   have H':=aZ H
   clear H
   go_wp2_with (first|((with_reducible refine gate_builtin (b:=.append) (xs:=#[.tmp 8,.tmp 12]) rfl ?_);at_builtin;refine Kd.R_append (Kd.int .i64) (w0:=w) w.heap.size rfl (.tmp 8) (.tmp 12) 65 3 (.int .i64 0) 8 rfl underlying65 info3 rfl (by decide) (by omega) u3 x3_1 (wrap64 (Int.tmod x0_1 10000)) [.int .i64 (wrap64 (Int.tmod x0_1 10000))] (fun _=>True) (fun _=>False) rfl rfl ?aP (fun _ hk=>hk.elim) ?aF ?aO ?aB ?aS ?aL ?_;(case aP=>exact rfl);(case aB=>exact bw);(case aF=>exact (fun _ _=>trivial));(case aO=>exact (zR HO_3));(case aS=>exact bs);(case aL=>have:=LMc3.out;omega);intro v384 w4 ho hb hg hat;rw [← Ny383.out] at ho;replace HB:=aZ (hb);have HO385:=aZ (ho);clear HO_3;clear ho hb hg hat))
   go_roundg k1
   case measure=>have:=HK1.out;omega
   case rel=>exact ⟨(IntKind.u64.wrap (Int.tdiv x0_1 10000)),(y383),zs,H',⟨by have:=HK1.out;omega⟩,⟨zR HO385⟩,⟨bw⟩⟩
def Y3.l0:Nat→List Int→Option (List Int)
 | 0,_=>none
 | k+1,x0=>if (x0.length:Int)>0 then (if 0≤(wrap64 ((x0.length:Int)-1)) then (if (wrap64 ((x0.length:Int)-1))<(x0.length:Int) then (if (rd x0 (wrap64 ((x0.length:Int)-1)))=0 then (if (wrap64 ((x0.length:Int)-1))≤(x0.length:Int) then (Y3.l0 k (x0.take ((wrap64 ((x0.length:Int)-1)):Int).toNat)) else (none)) else (some x0)) else (none)) else (none)) else (some x0)
def Y3.f (k:Nat) (l0:List Int):Option (List Int):=Y3.l0 k l0
theorem Y3.mono_l:∀ k,(∀ y0,LeO (Y3.l0 k y0) (Y3.l0 (k+1) y0))
 | 0=>fun _ r h=>by simp [Y3.l0] at h
 | k+1=>by
  have ih0:=Y3.mono_l k
  ·intro y0
   unfold Y3.l0
   exact zM
theorem Y3.mono:∀ a0 k,LeO (Y3.f k a0) (Y3.f (k+1) a0):=by
 intro a0 k
 have ih0:=Y3.mono_l k
 unfold Y3.f
 exact zM
theorem Y3.calls (k:Nat) (P0_:Nat→Prop) (A0:Option Addr) (c0:Nat) (l0:List Int) (r:List Int) (w:World) (hs0:Kd.V (Kd.int .i64) 3 w w.heap.size (fun k_=>P0_ k_) (.slice A0 l0.length c0) l0) (h:Y3.f k l0=some r) :
  Calls Tryz.prog 141 #[.slice A0 l0.length c0] w fun e w'=>∃ v0_:Value,e = .returned (v0_)∧Kd.V (Kd.int .i64) 3 w' w.heap.size (fun k_=>(P0_ k_∨w.heap.size≤k_)) v0_ r∧Below w.heap.size w w':=by
 have HO0:=aZ (show Kd.V (Kd.int .i64) 3 w w.heap.size (fun k_=>(P0_ k_∨w.heap.size≤k_)) (.slice A0 l0.length c0) l0 from Kd.V_mono hs0 (fun k_ hk=>.inl hk))
 have HB:=aZ (Below.refl w.heap.size w)
 have H:=h
 unfold Y3.f at H
 clear h
 have H':=aZ H
 clear H
 go_enter func141,ntmps141
 go_wp2
 go_loopg [0] k (fun kq v0 w'=>∃ (x0_1:List Int),Aside0 (Y3.l0 kq x0_1=some r)∧Aside0 (kq≤k)∧Aside0 (Kd.V (Kd.int .i64) 3 w' w.heap.size (fun k_=>(P0_ k_∨w.heap.size≤k_)) v0 x0_1)∧Aside0 (Below w.heap.size w w'))
 case atStart=>exact ⟨(l0),H',⟨Nat.le_refl _⟩,⟨zV HO0⟩,⟨bw⟩⟩
 case round =>
  clear H'
  try clear c1
  obtain ⟨x0_1,HA,HK1,HO_0,HB⟩:=hrel
  cases gk with
  | zero=>exact absurd HA.out (by simp [Y3.l0])
  | succ k1 =>
   have H:=HA.out
   clear HA
   simp only [Y3.l0] at H
   by_cases c2:(x0_1.length:Int)>0
   case neg=>
    rw [if_neg c2] at H
    have c2b0:=decide_eq_false c2
    have c2b1:decide (0<x0_1.length)=false:=decide_eq_false (by omega)
    clear c2
    obtain rfl:=Option.some.inj H
    obtain ⟨Ao12,co12,rfl⟩:=Kd.V_slice HO_0.out
    go_wp2
    go_ret
    exact ⟨_,ze,zV HO_0,bw⟩
   rw [if_pos c2] at H
   have c2b0:=decide_eq_true c2
   have c2b1:decide (0<x0_1.length)=true:=decide_eq_true (by omega)
   clear c2
   obtain ⟨ji3,hji3⟩:∃ j_:Int,(wrap64 ((x0_1.length:Int)-1))=j_:=⟨_,rfl⟩
   (first|rw [hji3] at H|simp only [hji3] at H)
   have hji3w:(IntKind.i64.wrap ((x0_1.length:Int)-1))=ji3:=(i64_w _).trans hji3
   by_cases c4:0≤(ji3)
   case neg=>
    rw [if_neg c4] at H
    cases H
   rw [if_pos c4] at H
   have c4b0:=decide_eq_true c4
   clear c4
   by_cases c5:(ji3)<(x0_1.length:Int)
   case neg=>
    rw [if_neg c5] at H
    cases H
   rw [if_pos c5] at H
   have c5b0:=decide_eq_true c5
   clear c5
   by_cases c6:(rd x0_1 (ji3))=0
   case neg=>
    rw [if_neg c6] at H
    obtain ⟨c6b0,c6b1⟩:=zX c6
    obtain rfl:=Option.some.inj H
    obtain ⟨Ao11,co11,rfl⟩:=Kd.V_slice HO_0.out
    have p386:0≤((ji3):Int):=zd
    have q386:(ji3)<(x0_1.length:Int):=zd
    obtain ⟨ad386,e386,hx386_0⟩:=Kd.at_int (Kd.V_reads' HO_0.out).2.2 (ji3) p386 q386
    cases e386
    replace p386:=eq_true p386
    replace q386:=eq_true q386
    go_wp2
    go_ret
    exact ⟨_,by first|rfl|(simp [errW_none,errW_some] <;> rfl)|(simp only [← hji3];first|rfl|(simp [errW_none,errW_some] <;> rfl))|(simp [*,errW_none,errW_some] <;> rfl),zV HO_0,bw⟩
   rw [if_pos c6] at H
   obtain ⟨c6b0,c6b1⟩:=zY c6
   clear c6
   have c7b0:=eq_true (zd:0≤(ji3))
   by_cases c8:(ji3)≤(x0_1.length:Int)
   case neg=>
    rw [if_neg c8] at H
    cases H
   rw [if_pos c8] at H
   have c8b0:=eq_true c8
   have c8b1:=decide_eq_true c8
   clear c8
   obtain ⟨y387,hy387⟩:∃ y_:List Int,y_=(x0_1.take ((ji3):Int).toNat):=⟨_,rfl⟩
   replace H:(Y3.l0 k1 y387)=some r:=zy hy387 H
   have Ny387:=aZ hy387
   clear hy387
   have H':=aZ H
   clear H
   obtain ⟨Ao9,co9,rfl⟩:=Kd.V_slice HO_0.out
   have p386:0≤((ji3):Int):=zd
   have q386:(ji3)<(x0_1.length:Int):=zd
   obtain ⟨ad386,e386,hx386_0⟩:=Kd.at_int (Kd.V_reads' HO_0.out).2.2 (ji3) p386 q386
   cases e386
   replace p386:=eq_true p386
   replace q386:=eq_true q386
   have q10:((ji3):Int)≤((x0_1.length:Int):Int):=zd
   obtain ⟨i010,hi010,_,hsz10,_⟩:=info_parts info3
   have hroom10:x0_1.length≤co9:=(Kd.V_reads' HO_0.out).2.1
   have hC10:Kd.F (Kd.int .i64) _ _ (some ad386) x0_1.length x0_1:=(Kd.V_at (base:=w.heap.size) HO_0.out).2.2
   have hcut10:=cut_to (P:=Tryz.prog) 65 3 .i64 underlying65 hi010 (some ad386) x0_1.length co9 (ji3) (zd) q10 hroom10
   have hr10:=Kd.F_take (m:=((ji3):Int).toNat) hC10 (by omega)
   have hy10:y387.length=((ji3):Int).toNat:=(by rw [Ny387.out,List.length_take];omega)
   rw [← Ny387.out] at hr10
   rw [← hy10] at hcut10
   have HO391:=aZ (show Kd.V (Kd.int .i64) 3 _ w.heap.size _ (.slice (some ad386) y387.length co9) y387 from Kd.V_mk (by omega) hr10)
   have HC391:=aZ (show y387.length≤co9 from by omega)
   clear hr10 hC10 hroom10 hi010 hsz10
   have KY10:=aZ hy10
   clear hy10
   replace q10:=eq_true q10
   go_wp2
   go_roundg k1
   case measure=>have:=HK1.out;omega
   case rel=>exact ⟨(y387),H',⟨by have:=HK1.out;omega⟩,⟨zV HO391⟩,⟨bw⟩⟩
mutual
def Y0.l0:Nat→List Int→Int→Int→Int→Option (List Int)
 | 0,_,_,_,_=>none
 | k+1,x0,x3,x6,x7=>if x7<x6 then (if 0≤x7 then (if x7<(x0.length:Int) then ((some (x0.set (x7:Int).toNat (Int.tmod (wrap64 (x3+(rd x0 x7))) 10000):List Int)).bind fun y393=>(if (rd y393 x7)<0 then (Y0.l0 k (y393.set (x7:Int).toNat (wrap64 ((rd y393 x7)+10000))) (wrap64 ((wrap64 (Int.tdiv (wrap64 (x3+(rd x0 x7))) 10000))-1)) x6 (wrap64 (x7+1))) else (Y0.l0 k y393 (wrap64 (Int.tdiv (wrap64 (x3+(rd x0 x7))) 10000)) x6 (wrap64 (x7+1))))) else (none)) else (none)) else (Y0.l1 k x0 x3)
def Y0.l1:Nat→List Int→Int→Option (List Int)
 | 0,_,_=>none
 | k+1,x0,x3=>if x3 > 0 then (if x0.length<17592186044416 then (Y0.l1 k (x0++[Int.tmod x3 10000]) (wrap64 (Int.tdiv x3 10000))) else (none)) else ((Y3.f k x0).bind fun t400=>(some t400))
end
def Y0.f (k:Nat) (l0:List Int):Option (List Int):=Y0.l0 k l0 0 (l0.length:Int) 0
theorem Y0.mono_l:∀ k,(∀ y0 y1 y2 y3,LeO (Y0.l0 k y0 y1 y2 y3) (Y0.l0 (k+1) y0 y1 y2 y3))∧(∀ y0 y1,LeO (Y0.l1 k y0 y1) (Y0.l1 (k+1) y0 y1))
 | 0=>⟨fun _ _ _ _ r h=>by simp [Y0.l0] at h,fun _ _ r h=>by simp [Y0.l1] at h⟩
 | k+1=>by
  obtain ⟨ih0,ih1⟩:=Y0.mono_l k
  refine ⟨?_,?_⟩
  ·intro y0 y1 y2 y3
   unfold Y0.l0
   have m0:=Y3.mono
   exact zM
  ·intro y0 y1
   unfold Y0.l1
   have m0:=Y3.mono
   exact zM
theorem Y0.mono:∀ a0 k,LeO (Y0.f k a0) (Y0.f (k+1) a0):=by
 intro a0 k
 obtain ⟨ih0,ih1⟩:=Y0.mono_l k
 unfold Y0.f
 have m0:=Y3.mono
 exact zM
theorem Y0.calls (k:Nat) (P0_:Nat→Prop) (u9000_:Value) (l0:List Int) (r:List Int) (w0 w:World) (hB:Below w0.heap.size w0 w) (ho0:Kd.R (Kd.int .i64) 3 w w0.heap.size P0_ u9000_ l0) (h:Y0.f k l0=some r) :
  Calls Tryz.prog 150 #[u9000_] w fun e w'=>∃ v0_:Value,e = .returned (v0_)∧Kd.V (Kd.int .i64) 3 w' w0.heap.size (fun k_=>(P0_ k_∨w.heap.size≤k_)) v0_ r∧Below w0.heap.size w0 w'∧Kept w w' (fun k_=>P0_ k_):=by
 have HO0:=aZ (show Kd.R (Kd.int .i64) 3 w w0.heap.size (fun k_=>(P0_ k_∨w.heap.size≤k_)) u9000_ l0 from Kd.R_mono ho0 (fun k_ hk=>(.inl hk)))
 have HK:=aZ (Kept.refl w (fun k_=>P0_ k_))
 have HW0:=aZ hB.size
 have HB:=aZ hB
 clear hB
 have H:=h
 unfold Y0.f at H
 clear h
 have H':=aZ H
 clear H
 obtain ⟨Ao2,co2,rfl⟩:=Kd.R_slice HO0.out
 go_enter func150,ntmps150
 go_wp2
 go_loopg [3,7] k (fun kq v3 v7 w'=>∃ (x0_1:List Int) (x3_1:Int) (x7_1:Int),v3 = .int .i64 x3_1∧v7 = .int .i64 x7_1∧Aside0 (Y0.l0 kq x0_1 x3_1 (l0.length:Int) x7_1=some r)∧Aside0 (kq≤k)∧Aside0 (Kd.R (Kd.int .i64) 3 w' w0.heap.size (fun k_=>(P0_ k_∨w.heap.size≤k_)) (.slice Ao2 l0.length co2) x0_1)∧Aside0 (Kept w w' (fun k_=>P0_ k_))∧Aside0 (Below w0.heap.size w0 w'))
 case atStart=>exact ⟨(l0),(0),(0),zs,zs,H',⟨Nat.le_refl _⟩,⟨zR HO0⟩,⟨kw⟩,⟨bw⟩⟩
 case round =>
  clear H'
  try clear c1
  obtain ⟨x0_1,x3_1,x7_1,rfl,rfl,HA,HK1,HO_0,HK,HB⟩:=hrel
  have hl0_1:=(Kd.R_reads' HO_0.out).1
  rw [hl0_1] at HO_0
  (try simp only [hl0_1])
  cases gk with
  | zero=>exact absurd HA.out (by simp [Y0.l0])
  | succ k1 =>
   have H:=HA.out
   clear HA
   simp only [Y0.l0] at H
   by_cases c3:x7_1<(l0.length:Int)
   case neg=>
    rw [if_neg c3] at H
    have c3b0:=decide_eq_false c3
    (try (have c3b0_hl0_1:=c3b0;simp only [hl0_1] at c3b0_hl0_1))
    clear c3
    have H':=aZ H
    clear H
    go_wp2
    go_loopg [0,3] k1 (fun kq v0 v3 w'=>∃ (x0_2:List Int) (x3_2:Int),v3 = .int .i64 x3_2∧Aside0 (Y0.l1 kq x0_2 x3_2=some r)∧Aside0 (kq≤k1)∧Aside0 (Kd.R (Kd.int .i64) 3 w' w0.heap.size (fun k_=>(P0_ k_∨w.heap.size≤k_)) v0 x0_2)∧Aside0 (Kept w w' (fun k_=>P0_ k_))∧Aside0 (Below w0.heap.size w0 w'))
    case atStart=>exact ⟨(x0_1),(x3_1),zs,H',⟨Nat.le_refl _⟩,⟨by (try simp only [hl0_1]);(with_reducible repeat (first|apply Kd.R_alloc|apply Kd.R_drewN|apply Kd.R_drew));exact HO_0.out⟩,⟨kw⟩,⟨bw⟩⟩
    case round =>
     clear H'
     try clear c1
     try clear c3
     try clear c3b0
     try clear q3
     try clear hx3
     try clear c4
     try clear c4b0
     try clear c5
     try clear c5b0
     try clear q6
     try clear hx6
     try clear hf6
     try clear c7
     try clear c7b0
     try clear q8
     try clear hx8
     try clear hf8
     try clear hx392_0
     try clear hx394_0
     try clear hx395_0
     try clear hx6_0
     try clear hx8_0
     try clear q392
     try clear q394
     try clear q395
     try clear q6
     try clear q8
     obtain ⟨x0_2,x3_2,rfl,HA,HK2,HO_0,HK,HB⟩:=hrel
     cases gk with
     | zero=>exact absurd HA.out (by simp [Y0.l1])
     | succ k2 =>
      have H:=HA.out
      clear HA
      simp only [Y0.l1] at H
      by_cases c15:x3_2 > 0
      case neg=>
       rw [if_neg c15] at H
       have c15b0:=decide_eq_false c15
       clear c15
       obtain ⟨t400,A18,H⟩:=zB H
       obtain rfl:=Option.some.inj H
       obtain ⟨Ao19,co19,rfl⟩:=Kd.R_slice HO_0.out
       go_wp2_with (first|(refine zg (some 47) func141 #[.slice Ao19 x0_2.length co19] ?_;(with_reducible refine (Y3.calls k2 (fun k_=>some k_=(.slice Ao19 x0_2.length co19:Value).ownBlock) _ _ x0_2 t400 _ ?side1 A18.out).mono ?_);(case side1=>exact Kd.R_V (Kd.R_tight rfl (HO_0.out)));rintro e w20 ⟨v401,rfl,ho0,hb⟩;refine ⟨_,rfl,?_⟩;have HO402:=yL (fun k_=>(P0_ k_∨w.heap.size≤k_)) ho0 (fun k_ hk_=>Or.elim hk_ (fun hs_=>((HO_0.out).1 k_ hs_.symm)) (fun hn_=>(.inr (Nat.le_trans (by first|exact HK.out.1|exact (show Kept w _ (fun k_=>P0_ k_) from kw).1) hn_))));replace HO_0:=yR HO_0 hb;replace HK:=aZ (Kept.below (S:=(fun k_=>P0_ k_)) kw hb);replace HB:=sB hb;clear hb ho0))
       go_ret
       exact ⟨_,ze,zV HO402,bw,kw⟩
      rw [if_pos c15] at H
      have c15b0:=decide_eq_true c15
      clear c15
      by_cases c16:x0_2.length<17592186044416
      case neg=>
       rw [if_neg c16] at H
       cases H
      rw [if_pos c16] at H
      have LMc16:=aZ c16
      clear c16
      obtain ⟨y397,hy397⟩:∃ y_:List Int,y_=(x0_2++[Int.tmod x3_2 10000]):=⟨_,rfl⟩
      replace H:(Y0.l1 k2 y397 (wrap64 (Int.tdiv x3_2 10000)))=some r:=zy hy397 H
      have Ny397:=aZ hy397
      clear hy397
      have H':=aZ H
      clear H
      go_wp2_with (first|((with_reducible refine gate_builtin (b:=.append) (xs:=#[.tmp 41,.tmp 44]) rfl ?_);at_builtin;refine Kd.R_append (Kd.int .i64) (w0:=w0) w0.heap.size rfl (.tmp 41) (.tmp 44) 65 3 (.int .i64 0) 8 rfl underlying65 info3 rfl (by decide) (by omega) u0 x0_2 (Int.tmod x3_2 10000) [.int .i64 (Int.tmod x3_2 10000)] (fun k_=>(P0_ k_∨w.heap.size≤k_)) (fun _=>False) rfl rfl ?aP (fun _ hk=>hk.elim) ?aF ?aO ?aB ?aS ?aL ?_;(case aP=>exact rfl);(case aB=>exact bw);(case aF=>exact (fun k_ hk=>(.inr (Nat.le_trans (by first|exact HK.out.1|exact (show Kept w _ (fun k_=>P0_ k_) from kw).1) hk))));(case aO=>exact (zR HO_0));(case aS=>exact bs);(case aL=>have:=LMc16.out;omega);intro v398 w17 ho hb hg hat;rw [← Ny397.out] at ho;replace HB:=aZ (hb);replace HK:=aZ (Kept.of_grown (S:=(fun k_=>P0_ k_)) hg kw (fun k_ e_=>(HO_0.out.1 k_ e_)));have HO399:=aZ (ho);clear HO_0;clear ho hb hg hat))
      go_roundg k2
      case measure=>have:=HK1.out;have:=HK2.out;omega
      case rel=>exact ⟨(y397),(wrap64 (Int.tdiv x3_2 10000)),zs,H',⟨by have:=HK1.out;have:=HK2.out;omega⟩,⟨by (try simp only [hl0_1]);(with_reducible repeat (first|apply Kd.R_alloc|apply Kd.R_drewN|apply Kd.R_drew));exact HO399.out⟩,⟨kw⟩,⟨bw⟩⟩
   rw [if_pos c3] at H
   have c3b0:=decide_eq_true c3
   (try (have c3b0_hl0_1:=c3b0;simp only [hl0_1] at c3b0_hl0_1))
   clear c3
   by_cases c4:0≤x7_1
   case neg=>
    rw [if_neg c4] at H
    cases H
   rw [if_pos c4] at H
   have c4b0:=decide_eq_true c4
   clear c4
   by_cases c5:x7_1<(x0_1.length:Int)
   case neg=>
    rw [if_neg c5] at H
    cases H
   rw [if_pos c5] at H
   have c5b0:=decide_eq_true c5
   (try (have c5b0_hl0_1:=c5b0;simp only [hl0_1] at c5b0_hl0_1))
   clear c5
   obtain ⟨y393,hy393⟩:∃ y_:List Int,y_=(x0_1.set (x7_1:Int).toNat (Int.tmod (wrap64 (x3_1+(rd x0_1 x7_1))) 10000)):=⟨_,rfl⟩
   replace H:(if (rd y393 x7_1)<0 then (Y0.l0 k1 (y393.set (x7_1:Int).toNat (wrap64 ((rd y393 x7_1)+10000))) (wrap64 ((wrap64 (Int.tdiv (wrap64 (x3_1+(rd x0_1 x7_1))) 10000))-1)) (l0.length:Int) (wrap64 (x7_1+1))) else (Y0.l0 k1 y393 (wrap64 (Int.tdiv (wrap64 (x3_1+(rd x0_1 x7_1))) 10000)) (l0.length:Int) (wrap64 (x7_1+1))))=some r:=zy hy393 H
   have Ny393:=aZ hy393
   clear hy393
   by_cases c7:(rd y393 x7_1)<0
   case neg=>
    rw [if_neg c7] at H
    have c7b0:=decide_eq_false c7
    clear c7
    have H':=aZ H
    clear H
    have p392:0≤(x7_1:Int):=zd
    have q392:x7_1<(x0_1.length:Int):=zd
    obtain ⟨ad392,e392,hx392_0⟩:=Kd.at_int (Kd.R_reads' HO_0.out).2.2 x7_1 p392 q392
    cases e392
    replace p392:=eq_true p392
    replace q392:=eq_true q392
    have p6:0≤(x7_1:Int):=zd
    have q6:(x7_1:Int)<((x0_1.length:Int):Int):=zd
    obtain ⟨go6,co6,eo6,gb6,gl6,cl6,HG6⟩:=Kd.R_form HO_0.out (by omega)
    (first|cases eo6|(injection eo6 with ea_ en_ ec_;(first|subst ea_|(injection ea_ with ea_;subst ea_));subst ec_;clear en_))
    have GB6:=aZ gb6
    have GG6:=aZ HG6
    clear gb6 gl6 HG6
    have HMgo6:=aZ (show (P0_ go6∨w.heap.size≤go6) from (HO_0.out.1 _ rfl))
    (first|simp only [add_plain] at hx392_0|skip)
    obtain ⟨hx6_0,hf6_0⟩:=Kd.R_celln 0 HO_0.out (x7_1:Int) p6 q6
    replace p6:=eq_true p6
    replace q6:=eq_true q6
    have HP13:=Kd.R_putg HO_0.out (x7_1:Int) (Int.tmod (wrap64 (x3_1+(rd x0_1 x7_1))) 10000)
    go_wp2_with (first|((with_reducible refine gate_store (t:=3) (p:=20) rfl ?_);refine store_event (t:=3) (p:=20) (v:=?vo_w14) (w1:=(wr.setCell ⟨go6,(x7_1:Int).toNat,none⟩ (.int .i64 (Int.tmod (wrap64 (x3_1+(rd x0_1 x7_1))) 10000)))) ?hg ?ho ?hn ?hr ?_;(case ho=>rfl);(case hg=>rfl);(case hn=>rfl);(case hr=>first|(go_simp;done)|(go_simp;rfl));intro w14 hw;have hg:wr.grownBy w14 (some go6):=(by rw [hw];exact HP13.2);have hp_:Kd.R (Kd.int .i64) 3 w14 w0.heap.size (fun k_=>(P0_ k_∨w.heap.size≤k_)) (.slice (some ⟨go6,0,none⟩) x0_1.length co2) y393:=(by rw [hw,Ny393.out];exact HP13.1);clear HP13;replace HB:=aZ ((by rw [hw];exact below_set (HB.out) GB6.out:Below w0.heap.size w0 w14));replace HK:=aZ (Kept.of_grown (S:=(fun k_=>P0_ k_)) hg kw (fun k_ e_=>(HO_0.out.1 k_ e_)));replace HO_0:=aZ (hp_);clear hg hw hp_;have p394:0≤(x7_1:Int):=zd;have q394:x7_1<(y393.length:Int):=(by have h_:(x7_1:Int)<((x0_1.length:Int):Int):=zd;first|(have e_:=(Kd.R_reads' HO_0.out).1;omega)|simpa only [Ny393.out,List.length_set] using h_);have ql394:((x7_1:Int)<((x0_1.length:Int):Int))=True:=eq_true (zd);obtain ⟨ad394,e394,hx394_0⟩:=Kd.at_int (Kd.R_reads' HO_0.out).2.2 x7_1 p394 q394;obtain rfl:(⟨go6,0,none⟩:Addr)=ad394:=(by injection e394);(first|simp only [add_plain] at hx394_0|simp only [add_at] at hx394_0|simp only [Addr.add,Nat.zero_add] at hx394_0|skip);replace p394:=eq_true p394;replace q394:=eq_true q394))
    (try simp only [← hl0_1])
    go_roundg k1
    case measure=>have:=HK1.out;omega
    case rel=>exact ⟨(y393),(wrap64 (Int.tdiv (wrap64 (x3_1+(rd x0_1 x7_1))) 10000)),(wrap64 (x7_1+1)),zs,zs,H',⟨by have:=HK1.out;omega⟩,⟨by (try simp only [hl0_1]);(with_reducible repeat (first|apply Kd.R_alloc|apply Kd.R_drewN|apply Kd.R_drew));exact HO_0.out⟩,⟨kw⟩,⟨bw⟩⟩
   rw [if_pos c7] at H
   have c7b0:=decide_eq_true c7
   clear c7
   obtain ⟨y396,hy396⟩:∃ y_:List Int,y_=(y393.set (x7_1:Int).toNat (wrap64 ((rd y393 x7_1)+10000))):=⟨_,rfl⟩
   replace H:(Y0.l0 k1 y396 (wrap64 ((wrap64 (Int.tdiv (wrap64 (x3_1+(rd x0_1 x7_1))) 10000))-1)) (l0.length:Int) (wrap64 (x7_1+1)))=some r:=zy hy396 H
   have Ny396:=aZ hy396
   clear hy396
   have H':=aZ H
   clear H
   have p392:0≤(x7_1:Int):=zd
   have q392:x7_1<(x0_1.length:Int):=zd
   obtain ⟨ad392,e392,hx392_0⟩:=Kd.at_int (Kd.R_reads' HO_0.out).2.2 x7_1 p392 q392
   cases e392
   replace p392:=eq_true p392
   replace q392:=eq_true q392
   have p6:0≤(x7_1:Int):=zd
   have q6:(x7_1:Int)<((x0_1.length:Int):Int):=zd
   obtain ⟨go6,co6,eo6,gb6,gl6,cl6,HG6⟩:=Kd.R_form HO_0.out (by omega)
   (first|cases eo6|(injection eo6 with ea_ en_ ec_;(first|subst ea_|(injection ea_ with ea_;subst ea_));subst ec_;clear en_))
   have GB6:=aZ gb6
   have GG6:=aZ HG6
   clear gb6 gl6 HG6
   have HMgo6:=aZ (show (P0_ go6∨w.heap.size≤go6) from (HO_0.out.1 _ rfl))
   (first|simp only [add_plain] at hx392_0|skip)
   obtain ⟨hx6_0,hf6_0⟩:=Kd.R_celln 0 HO_0.out (x7_1:Int) p6 q6
   replace p6:=eq_true p6
   replace q6:=eq_true q6
   have HP9:=Kd.R_putg HO_0.out (x7_1:Int) (Int.tmod (wrap64 (x3_1+(rd x0_1 x7_1))) 10000)
   go_wp2_with (first|((with_reducible refine gate_store (t:=3) (p:=20) rfl ?_);refine store_event (t:=3) (p:=20) (v:=?vo_w10) (w1:=(wr.setCell ⟨go6,(x7_1:Int).toNat,none⟩ (.int .i64 (Int.tmod (wrap64 (x3_1+(rd x0_1 x7_1))) 10000)))) ?hg ?ho ?hn ?hr ?_;(case ho=>rfl);(case hg=>rfl);(case hn=>rfl);(case hr=>first|(go_simp;done)|(go_simp;rfl));intro w10 hw;have hg:wr.grownBy w10 (some go6):=(by rw [hw];exact HP9.2);have hp_:Kd.R (Kd.int .i64) 3 w10 w0.heap.size (fun k_=>(P0_ k_∨w.heap.size≤k_)) (.slice (some ⟨go6,0,none⟩) x0_1.length co2) y393:=(by rw [hw,Ny393.out];exact HP9.1);clear HP9;replace HB:=aZ ((by rw [hw];exact below_set (HB.out) GB6.out:Below w0.heap.size w0 w10));replace HK:=aZ (Kept.of_grown (S:=(fun k_=>P0_ k_)) hg kw (fun k_ e_=>(HO_0.out.1 k_ e_)));replace HO_0:=aZ (hp_);clear hg hw hp_;have p394:0≤(x7_1:Int):=zd;have q394:x7_1<(y393.length:Int):=(by have h_:(x7_1:Int)<((x0_1.length:Int):Int):=zd;first|(have e_:=(Kd.R_reads' HO_0.out).1;omega)|simpa only [Ny393.out,List.length_set] using h_);have ql394:((x7_1:Int)<((x0_1.length:Int):Int))=True:=eq_true (zd);obtain ⟨ad394,e394,hx394_0⟩:=Kd.at_int (Kd.R_reads' HO_0.out).2.2 x7_1 p394 q394;obtain rfl:(⟨go6,0,none⟩:Addr)=ad394:=(by injection e394);(first|simp only [add_plain] at hx394_0|simp only [add_at] at hx394_0|simp only [Addr.add,Nat.zero_add] at hx394_0|skip);replace p394:=eq_true p394;replace q394:=eq_true q394;have p395:0≤(x7_1:Int):=zd;have q395:x7_1<(y393.length:Int):=(by have h_:(x7_1:Int)<((x0_1.length:Int):Int):=zd;first|(have e_:=(Kd.R_reads' HO_0.out).1;omega)|simpa only [Ny393.out,List.length_set] using h_);have ql395:((x7_1:Int)<((x0_1.length:Int):Int))=True:=eq_true (zd);obtain ⟨ad395,e395,hx395_0⟩:=Kd.at_int (Kd.R_reads' HO_0.out).2.2 x7_1 p395 q395;obtain rfl:(⟨go6,0,none⟩:Addr)=ad395:=(by injection e395);(first|simp only [add_plain] at hx395_0|simp only [add_at] at hx395_0|simp only [Addr.add,Nat.zero_add] at hx395_0|skip);replace p395:=eq_true p395;replace q395:=eq_true q395;have p8:0≤(x7_1:Int):=zd;have q8:(x7_1:Int)<((x0_1.length:Int):Int):=zd;obtain ⟨hx8_0,hf8_0⟩:=Kd.R_celln 0 HO_0.out (x7_1:Int) p8 q8;replace p8:=eq_true p8;replace q8:=eq_true q8;obtain ⟨hy11_,hz11_⟩:=Kd.R_celln 0 HO_0.out (x7_1:Int) (zd) (zd);have HP11:=Kd.R_putg HO_0.out (x7_1:Int) (wrap64 ((rd y393 x7_1)+10000)))|((with_reducible refine gate_store (t:=3) (p:=33) rfl ?_);refine store_event (t:=3) (p:=33) (v:=?vo_w12) (w1:=(w10.setCell ⟨go6,(x7_1:Int).toNat,none⟩ (.int .i64 (wrap64 ((rd y393 x7_1)+10000))))) ?hg ?ho ?hn ?hr ?_;(case ho=>rfl);(case hg=>rfl);(case hn=>rfl);(case hr=>first|(go_simp;done)|(go_simp;rfl));intro w12 hw;have hg:w10.grownBy w12 (some go6):=(by rw [hw];exact HP11.2);have hp_:Kd.R (Kd.int .i64) 3 w12 w0.heap.size (fun k_=>(P0_ k_∨w.heap.size≤k_)) (.slice (some ⟨go6,0,none⟩) x0_1.length co2) y396:=(by rw [hw,Ny396.out];exact HP11.1);clear HP11;replace HB:=aZ ((by rw [hw];exact below_set (HB.out) GB6.out:Below w0.heap.size w0 w12));replace HK:=aZ (Kept.of_grown (S:=(fun k_=>P0_ k_)) hg kw (fun k_ e_=>(HO_0.out.1 k_ e_)));replace HO_0:=aZ (hp_);clear hg hw hp_))
   (try simp only [← hl0_1])
   go_roundg k1
   case measure=>have:=HK1.out;omega
   case rel=>exact ⟨(y396),(wrap64 ((wrap64 (Int.tdiv (wrap64 (x3_1+(rd x0_1 x7_1))) 10000))-1)),(wrap64 (x7_1+1)),zs,zs,H',⟨by have:=HK1.out;omega⟩,⟨by (try simp only [hl0_1]);(with_reducible repeat (first|apply Kd.R_alloc|apply Kd.R_drewN|apply Kd.R_drew));exact HO_0.out⟩,⟨kw⟩,⟨bw⟩⟩
mutual
def Y1.l0:Nat→List Int→List Int→List Int→Int→Int→Option (List Int)
 | 0,_,_,_,_,_=>none
 | k+1,x1,x5,x16,x17,x18=>if x18<x17 then (if 0≤x18 then (if x18<(x16.length:Int) then (Y1.l1 k x1 x5 x18 (rd x16 x18) x16 x17 x18 x1 (x1.length:Int) 0) else (none)) else (none)) else ((Y0.f k x5).bind fun t406=>(some t406))
def Y1.l1:Nat→List Int→List Int→Int→Int→List Int→Int→Int→List Int→Int→Int→Option (List Int)
 | 0,_,_,_,_,_,_,_,_,_,_=>none
 | k+1,x1,x5,x6,x7,x16,x17,x18,x23,x24,x25=>if x25<x24 then (if 0≤x25 then (if x25<(x23.length:Int) then (if 0≤(wrap64 (x6+x25)) then (if (wrap64 (x6+x25))<(x5.length:Int) then (Y1.l1 k x1 (x5.set ((wrap64 (x6+x25)):Int).toNat (wrap64 ((rd x5 (wrap64 (x6+x25)))+(wrap64 (x7*(rd x23 x25)))))) x6 x7 x16 x17 x18 x23 x24 (wrap64 (x25+1))) else (none)) else (none)) else (none)) else (none)) else (Y1.l0 k x1 x5 x16 x17 (wrap64 (x18+1)))
end
def Y1.f (k:Nat) (l0:List Int) (l1:List Int):Option (List Int):=if 0≤(wrap64 ((l0.length:Int)+(l1.length:Int))) then (if (wrap64 ((l0.length:Int)+(l1.length:Int)):Int).toNat≤35184372088832 then (Y1.l0 k l1 (List.replicate (wrap64 ((l0.length:Int)+(l1.length:Int)):Int).toNat 0) l0 (l0.length:Int) 0) else (none)) else (none)
theorem Y1.mono_l:∀ k,(∀ y0 y1 y2 y3 y4,LeO (Y1.l0 k y0 y1 y2 y3 y4) (Y1.l0 (k+1) y0 y1 y2 y3 y4))∧(∀ y0 y1 y2 y3 y4 y5 y6 y7 y8 y9,LeO (Y1.l1 k y0 y1 y2 y3 y4 y5 y6 y7 y8 y9) (Y1.l1 (k+1) y0 y1 y2 y3 y4 y5 y6 y7 y8 y9))
 | 0=>⟨fun _ _ _ _ _ r h=>by simp [Y1.l0] at h,fun _ _ _ _ _ _ _ _ _ _ r h=>by simp [Y1.l1] at h⟩
 | k+1=>by
  obtain ⟨ih0,ih1⟩:=Y1.mono_l k
  refine ⟨?_,?_⟩
  ·intro y0 y1 y2 y3 y4
   unfold Y1.l0
   have m0:=Y0.mono
   exact zM
  ·intro y0 y1 y2 y3 y4 y5 y6 y7 y8 y9
   unfold Y1.l1
   have m0:=Y0.mono
   exact zM
theorem Y1.mono:∀ a0 a1 k,LeO (Y1.f k a0 a1) (Y1.f (k+1) a0 a1):=by
 intro a0 a1 k
 obtain ⟨ih0,ih1⟩:=Y1.mono_l k
 unfold Y1.f
 have m0:=Y0.mono
 exact zM
theorem Y1.calls (k:Nat) (A0:Option Addr) (c0:Nat) (l0:List Int) (A1:Option Addr) (c1:Nat) (l1:List Int) (r:List Int) (w:World) (hr0:Kd.C (Kd.int .i64) w A0 l0.length l0) (hc0:l0.length≤c0) (hr1:Kd.C (Kd.int .i64) w A1 l1.length l1) (hc1:l1.length≤c1) (h:Y1.f k l0 l1=some r) :
  Calls Tryz.prog 112 #[.slice A0 l0.length c0,.slice A1 l1.length c1] w fun e w'=>∃ v0_:Value,e = .returned (v0_)∧Kd.V (Kd.int .i64) 3 w' w.heap.size (fun k_=>(w.heap.size≤k_)) v0_ r∧Below w.heap.size w w':=by
 have HR0:=aZ hr0
 have HC0:=aZ hc0
 clear hr0 hc0
 have HR1:=aZ hr1
 have HC1:=aZ hc1
 clear hr1 hc1
 have HB:=aZ (Below.refl w.heap.size w)
 have H:=h
 unfold Y1.f at H
 clear h
 obtain ⟨ji3,hji3⟩:∃ j_:Int,(wrap64 ((l0.length:Int)+(l1.length:Int)))=j_:=⟨_,rfl⟩
 (first|rw [hji3] at H|simp only [hji3] at H)
 have hji3w:(IntKind.i64.wrap ((l0.length:Int)+(l1.length:Int)))=ji3:=(i64_w _).trans hji3
 by_cases c4:0≤(ji3)
 case neg=>
  rw [if_neg c4] at H
  cases H
 rw [if_pos c4] at H
 have c4b0:=eq_true c4
 have c4b1:=decide_eq_true c4
 clear c4
 by_cases c5:(ji3:Int).toNat≤35184372088832
 case neg=>
  rw [if_neg c5] at H
  cases H
 rw [if_pos c5] at H
 have c5b0:=eq_true c5
 have c5b1:=decide_eq_true c5
 clear c5
 obtain ⟨y403,hy403⟩:∃ y_:List Int,y_=(List.replicate (ji3:Int).toNat 0):=⟨_,rfl⟩
 replace H:(Y1.l0 k l1 y403 l0 (l0.length:Int) 0)=some r:=zy hy403 H
 have Ny403:=aZ hy403
 clear hy403
 have H':=aZ H
 clear H
 go_enter func112,ntmps112
 go_wp2_with (first|((with_reducible refine gate_dst (N:=15) rfl ?_);refine Kd.R_make (Kd.int .i64) _ 3 rfl (N:=15) rfl 65 _ _ rfl ji3 rfl rfl underlying65 (.int .i64 0) 8 info3 rfl (by decide) (by omega) 0 (ok:=fun _=>True) (okp:=fun _=>True) rfl (fun _ hk=>hk) trivial (zd) (Nat.le_trans (Nat.mul_le_mul_right _ (zd:ji3.toNat≤35184372088832)) (by omega)) (Below.refl _ _) (Nat.le_refl _) ?_;intro v404 w6 ho7 hb hg_ hnew_;clear hg_ hnew_;(first|rw [← Ny403.out] at ho7|(simp only [Int.reduceToNat] at ho7;rw [← Ny403.out] at ho7));have HO405:=aZ (Kd.R_lower (Kd.R_newM (M:=fun k_=>(w.heap.size≤k_)) ho7 bs (fun k_ h_=>h_)) bs);replace HB:=sB hb;clear hb ho7))
 go_loopg [18] k (fun kq v18 w'=>∃ (x5_1:List Int) (x18_1:Int),v18 = .int .i64 x18_1∧Aside0 (Y1.l0 kq l1 x5_1 l0 (l0.length:Int) x18_1=some r)∧Aside0 (kq≤k)∧Aside0 (Kd.R (Kd.int .i64) 3 w' w.heap.size (fun k_=>(w.heap.size≤k_)) v404 x5_1)∧Aside0 (Below w.heap.size w w'))
 case atStart=>exact ⟨(y403),(0),zs,H',⟨Nat.le_refl _⟩,⟨rM HO405 (fun _ hk=>hk.1)⟩,⟨bw⟩⟩
 case round =>
  clear H'
  try clear c1
  try clear c4
  try clear c4b0
  try clear c4b1
  try clear c5
  try clear c5b0
  try clear c5b1
  obtain ⟨x5_1,x18_1,rfl,HA,HK1,HO_5,HB⟩:=hrel
  cases gk with
  | zero=>exact absurd HA.out (by simp [Y1.l0])
  | succ k1 =>
   have H:=HA.out
   clear HA
   simp only [Y1.l0] at H
   by_cases c8:x18_1<(l0.length:Int)
   case neg=>
    rw [if_neg c8] at H
    have c8b0:=decide_eq_false c8
    clear c8
    obtain ⟨t406,A21,H⟩:=zB H
    obtain rfl:=Option.some.inj H
    obtain ⟨Ao22,co22,rfl⟩:=Kd.R_slice HO_5.out
    go_wp2_with (first|(refine zg (some 44) func150 #[.slice Ao22 x5_1.length co22] ?_;(with_reducible refine (Y0.calls k1 (fun k_=>some k_=(.slice Ao22 x5_1.length co22:Value).ownBlock) (.slice Ao22 x5_1.length co22) x5_1 t406 w _ bw ?side2 A21.out).mono ?_);(case side2=>exact Kd.R_tight rfl HO_5.out);rintro e w23 ⟨v407,rfl,ho0,hb,hkp⟩;refine ⟨_,rfl,?_⟩;have HO408:=aZ (Kd.V_mono (ok':=fun k_=>(w.heap.size≤k_)) ho0 (fun k_ hk_=>Or.elim hk_ (fun hs_=>(HO_5.out.1 k_ (hs_).symm)) (fun hn_=>(Nat.le_trans bs hn_))));replace HB:=aZ (hb);clear HO_5;clear hb ho0))
    go_ret
    exact ⟨_,by first|rfl|(simp [errW_none,errW_some] <;> rfl)|(simp only [← hji3];first|rfl|(simp [errW_none,errW_some] <;> rfl))|(simp [*,errW_none,errW_some] <;> rfl),zV HO408,bw⟩
   rw [if_pos c8] at H
   have c8b0:=decide_eq_true c8
   clear c8
   by_cases c9:0≤x18_1
   case neg=>
    rw [if_neg c9] at H
    cases H
   rw [if_pos c9] at H
   have c9b0:=decide_eq_true c9
   clear c9
   by_cases c10:x18_1<(l0.length:Int)
   case neg=>
    rw [if_neg c10] at H
    cases H
   rw [if_pos c10] at H
   have c10b0:=decide_eq_true c10
   clear c10
   have H':=aZ H
   clear H
   have p409:0≤(x18_1:Int):=zd
   have q409:x18_1<(l0.length:Int):=zd
   obtain ⟨ad409,e409,hx409_0⟩:=Kd.at_int HR0.out x18_1 p409 q409
   cases e409
   replace hx409_0:=(HB.out.cell (World.block_lt_of_cell? w _ hx409_0)).trans hx409_0
   replace p409:=eq_true p409
   replace q409:=eq_true q409
   go_wp2
   go_loopg [25] k1 (fun kq v25 w'=>∃ (x5_2:List Int) (x25_2:Int),v25 = .int .i64 x25_2∧Aside0 (Y1.l1 kq l1 x5_2 x18_1 (rd l0 x18_1) l0 (l0.length:Int) x18_1 l1 (l1.length:Int) x25_2=some r)∧Aside0 (kq≤k1)∧Aside0 (Kd.R (Kd.int .i64) 3 w' w.heap.size (fun k_=>(w.heap.size≤k_)) v404 x5_2)∧Aside0 (Below w.heap.size w w'))
   case atStart=>exact ⟨(x5_1),(0),zs,H',⟨Nat.le_refl _⟩,⟨zR HO_5⟩,⟨bw⟩⟩
   case round =>
    clear H'
    try clear c1
    try clear c4
    try clear c4b0
    try clear c4b1
    try clear q4
    try clear hx4
    try clear c5
    try clear c5b0
    try clear c5b1
    try clear c8
    try clear c8b0
    try clear c9
    try clear c9b0
    try clear c10
    try clear c10b0
    try clear hx409_0
    try clear q409
    obtain ⟨x5_2,x25_2,rfl,HA,HK2,HO_5,HB⟩:=hrel
    cases gk with
    | zero=>exact absurd HA.out (by simp [Y1.l1])
    | succ k2 =>
     have H:=HA.out
     clear HA
     simp only [Y1.l1] at H
     by_cases c11:x25_2<(l1.length:Int)
     case neg=>
      rw [if_neg c11] at H
      have c11b0:=decide_eq_false c11
      clear c11
      have H':=aZ H
      clear H
      go_wp2
      go_roundg k2
      case measure=>have:=HK1.out;have:=HK2.out;omega
      case rel=>exact ⟨(x5_2),(wrap64 (x18_1+1)),zs,H',⟨by have:=HK1.out;have:=HK2.out;omega⟩,⟨zR HO_5⟩,⟨bw⟩⟩
     rw [if_pos c11] at H
     have c11b0:=decide_eq_true c11
     clear c11
     by_cases c12:0≤x25_2
     case neg=>
      rw [if_neg c12] at H
      cases H
     rw [if_pos c12] at H
     have c12b0:=decide_eq_true c12
     clear c12
     by_cases c13:x25_2<(l1.length:Int)
     case neg=>
      rw [if_neg c13] at H
      cases H
     rw [if_pos c13] at H
     have c13b0:=decide_eq_true c13
     clear c13
     obtain ⟨ji14,hji14⟩:∃ j_:Int,(wrap64 (x18_1+x25_2))=j_:=⟨_,rfl⟩
     (first|rw [hji14] at H|simp only [hji14] at H)
     have hji14w:(IntKind.i64.wrap (x18_1+x25_2))=ji14:=(i64_w _).trans hji14
     by_cases c15:0≤(ji14)
     case neg=>
      rw [if_neg c15] at H
      cases H
     rw [if_pos c15] at H
     have c15b0:=decide_eq_true c15
     clear c15
     by_cases c16:(ji14)<(x5_2.length:Int)
     case neg=>
      rw [if_neg c16] at H
      cases H
     rw [if_pos c16] at H
     have c16b0:=decide_eq_true c16
     clear c16
     obtain ⟨y412,hy412⟩:∃ y_:List Int,y_=(x5_2.set ((ji14):Int).toNat (wrap64 ((rd x5_2 (ji14))+(wrap64 ((rd l0 x18_1)*(rd l1 x25_2)))))):=⟨_,rfl⟩
     replace H:(Y1.l1 k2 l1 y412 x18_1 (rd l0 x18_1) l0 (l0.length:Int) x18_1 l1 (l1.length:Int) (wrap64 (x25_2+1)))=some r:=zy hy412 H
     have Ny412:=aZ hy412
     clear hy412
     have H':=aZ H
     clear H
     have p410:0≤(x25_2:Int):=zd
     have q410:x25_2<(l1.length:Int):=zd
     obtain ⟨ad410,e410,hx410_0⟩:=Kd.at_int HR1.out x25_2 p410 q410
     cases e410
     replace hx410_0:=(HB.out.cell (World.block_lt_of_cell? w _ hx410_0)).trans hx410_0
     replace p410:=eq_true p410
     replace q410:=eq_true q410
     obtain ⟨Ao18,co18,rfl⟩:=Kd.R_slice HO_5.out
     have p411:0≤((ji14):Int):=zd
     have q411:(ji14)<(x5_2.length:Int):=zd
     obtain ⟨ad411,e411,hx411_0⟩:=Kd.at_int (Kd.R_reads' HO_5.out).2.2 (ji14) p411 q411
     cases e411
     replace p411:=eq_true p411
     replace q411:=eq_true q411
     have p17:0≤((ji14):Int):=zd
     have q17:((ji14):Int)<((x5_2.length:Int):Int):=zd
     obtain ⟨go17,co17,eo17,gb17,gl17,cl17,HG17⟩:=Kd.R_form HO_5.out (by omega)
     (first|cases eo17|(injection eo17 with ea_ en_ ec_;(first|subst ea_|(injection ea_ with ea_;subst ea_));subst ec_;clear en_))
     have GB17:=aZ gb17
     have GG17:=aZ HG17
     clear gb17 gl17 HG17
     (first|simp only [add_plain] at hx411_0|skip)
     obtain ⟨hx17_0,hf17_0⟩:=Kd.R_celln 0 HO_5.out ((ji14):Int) p17 q17
     replace p17:=eq_true p17
     replace q17:=eq_true q17
     have HP19:=Kd.R_putg HO_5.out ((ji14):Int) (wrap64 ((rd x5_2 (ji14))+(wrap64 ((rd l0 x18_1)*(rd l1 x25_2)))))
     go_wp2_with (first|((with_reducible refine gate_store (t:=3) (p:=40) rfl ?_);refine store_event (t:=3) (p:=40) (v:=?vo_w20) (w1:=(wr.setCell ⟨go17,((ji14):Int).toNat,none⟩ (.int .i64 (wrap64 ((rd x5_2 (ji14))+(wrap64 ((rd l0 x18_1)*(rd l1 x25_2)))))))) ?hg ?ho ?hn ?hr ?_;(case ho=>rfl);(case hg=>rfl);(case hn=>rfl);(case hr=>first|(go_simp;done)|(go_simp;rfl));intro w20 hw;have hg:wr.grownBy w20 (some go17):=(by rw [hw];exact HP19.2);have hp_:Kd.R (Kd.int .i64) 3 w20 w.heap.size (fun k_=>(w.heap.size≤k_)) (.slice (some ⟨go17,0,none⟩) x5_2.length co18) y412:=(by rw [hw,Ny412.out];exact HP19.1);clear HP19;replace HO_5:=aZ (hp_);replace HB:=aZ ((by rw [hw];exact below_set (HB.out) GB17.out:Below w.heap.size w w20));clear hg hw hp_))
     go_roundg k2
     case measure=>have:=HK1.out;have:=HK2.out;omega
     case rel=>exact ⟨(y412),(wrap64 (x25_2+1)),zs,H',⟨by have:=HK1.out;have:=HK2.out;omega⟩,⟨zR HO_5⟩,⟨bw⟩⟩
section
def Ya.lp (a2:Int):List Int→Nat→List Int→List Int
 | [],_,o=>o
 | x :: r,i,o=>Ya.lp a2 r (i+1) (o.set i (wrap64 ((rd o (i:Int))+wrap64 (a2*x))))
def Ya.f (k:Nat) (l0:List Int) (l1:List Int) (a2:Int):Option (List Int) :=
 if l0.length<1099511627776∧l1.length<1099511627776 then Y0.f k (Ya.lp a2 l1 0 (l0++List.replicate (l1.length-l0.length) 0)) else none
theorem Ya.mono:∀ a0 a1 a2 k,LeO (Ya.f k a0 a1 a2) (Ya.f (k+1) a0 a1 a2):=by
 intro a0 a1 a2 k
 unfold Ya.f
 exact LeO.ite (Y0.mono _ k) (LeO.none _)
theorem Ya.calls (k:Nat) (A0:Option Addr) (c0:Nat) (l0:List Int) (A1:Option Addr) (c1:Nat) (l1:List Int) (a2:Int) (r:List Int) (w:World) (hr0:Kd.C (Kd.int .i64) w A0 l0.length l0) (hc0:l0.length≤c0) (hr1:Kd.C (Kd.int .i64) w A1 l1.length l1) (hc1:l1.length≤c1) (h:Ya.f k l0 l1 a2=some r) :
  Calls Tryz.prog 119 #[.slice A0 l0.length c0,.slice A1 l1.length c1,.int .i64 a2] w fun e w'=>∃ v0_:Value,e = .returned v0_∧Kd.V (Kd.int .i64) 3 w' w.heap.size (fun k_=>(w.heap.size≤k_)) v0_ r∧Below w.heap.size w w':=by
 unfold Ya.f at h
 by_cases hl:l0.length<1099511627776∧l1.length<1099511627776
 case neg=>rw [if_neg hl] at h;cases h
 rw [if_pos hl] at h
 obtain ⟨mm,hmm⟩:∃ m:Int,(if (l0.length:Int)<(l1.length:Int) then (l1.length:Int) else (l0.length:Int))=m:=⟨_,rfl⟩
 have emm:mm.toNat=l0.length+(l1.length-l0.length):=by rw [← hmm];split <;> omega
 have info3c:(Tryz.prog.info? 3).map (fun i=>(i.zero,i.size,i.bytes))=some (some (.int .i64 0),1,8):=by kernel_rfl
 have info3s:(Tryz.prog.info? 3).map (·.size)=some 1:=by kernel_rfl
 obtain ⟨fin,hfin⟩:∃ o:List Int,Ya.lp a2 l1 0 (l0++List.replicate (l1.length-l0.length) 0)=o:=⟨_,rfl⟩
 rw [hfin] at h
 have hcarry:=fun (v:Value) (W:World) (hB:Below w.heap.size w W) (h0:Kd.R (Kd.int .i64) 3 W w.heap.size (fun b=>w.heap.size≤b) v fin)=>Y0.calls k (fun b=>w.heap.size≤b) v fin r w W hB h0 h
 have HF:=aZ hfin
 clear hfin
 have hmmN:(if l0.length<l1.length then (l1.length:Int) else (l0.length:Int))=mm:=by rw [← hmm];split <;> split <;> omega
 have P3:=aZ (show 0≤mm by rw [← hmm];split <;> omega)
 have P4:=aZ (show mm.toNat≤35184372088832 by omega)
 have EM:=aZ emm
 have HL:=aZ hl
 have HR0:=aZ hr0
 have HR1:=aZ hr1
 have I:=aZ info3c
 have IS:=aZ info3s
 have HB:=aZ (Below.refl w.heap.size w)
 clear hr0 hr1 hc0 hc1 h emm info3c info3s hl
 go_enter func119,ntmps119
 go_wp2_with (first
  | ((with_reducible refine gate_dst (N:=15) rfl ?_);refine Kd.R_make (Kd.int .i64) _ 3 rfl (N:=15) rfl 65 _ _ rfl mm rfl rfl underlying65 (.int .i64 0) 8 I.out rfl (by decide) (by omega) 0 (ok:=fun _=>True) (okp:=fun _=>True) rfl (fun _ hk=>hk) trivial P3.out (Nat.le_trans (Nat.mul_le_mul_right _ P4.out) (by omega)) (Below.refl _ _) (Nat.le_refl _) ?_;intro vo wo hv hb hg_ hnew_;clear hg_ hnew_;have HO:=aZ hv;have HB2:=aZ (below_step HB.out hb);have HRa:=aZ (Kd.C_below HR0.out hb);have HRb:=aZ (Kd.C_below HR1.out hb);clear hv hb)
  | ((with_reducible refine gate_builtin (b:=.copy) (xs:=#[.tmp 16,.tmp 17]) rfl ?_);refine Kd.R_copy (0:Int) w.heap.size rfl (.tmp 16) (.tmp 17) 65 65 3 rfl underlying65 IS.out vo _ l0 A0 _ c0 _ rfl rfl HO.out HRa.out HB2.out HB2.out.size ?_;intro wc hv hb hg;have HC:=aZ hv;have HB3:=aZ hb;have HRc:=aZ hg;clear hv hb hg))
 have e1:l0.take (min l0.length (List.replicate mm.toNat (0:Int)).length)++(List.replicate mm.toNat (0:Int)).drop (min l0.length (List.replicate mm.toNat (0:Int)).length)=l0++List.replicate (l1.length-l0.length) 0:=by
  have:=EM.out
  rw [List.length_replicate,Nat.min_eq_left (by omega),List.take_length,List.drop_replicate,show mm.toNat-l0.length=l1.length-l0.length by omega]
 have hC:=HC.out
 rw [e1] at hC
 obtain ⟨o1,ho1⟩:∃ o:List Int,l0++List.replicate (l1.length-l0.length) 0=o:=⟨_,rfl⟩
 have hF:=HF.out
 rw [ho1] at hC hF
 have ho1l:o1.length=mm.toNat:=by have:=EM.out;rw [← ho1,List.length_append,List.length_replicate];omega
 obtain ⟨Ao,co,eo⟩:=Kd.R_slice hC
 subst eo
 have HC2:=aZ hC
 have HF2:=aZ hF
 have HO1L:=aZ ho1l
 have HM:=aZ hmm
 clear HC HO hC hF e1 ho1 ho1l HRa HRb HRc HB2 HF hmm hmmN
 go_loopg [21] l1.length (fun kq v21 w'=>∃ (i:Nat) (o:List Int),v21 = .int .i64 (i:Int)∧Aside0 (Ya.lp a2 (l1.drop i) i o=fin)∧Aside0 (i≤l1.length∧l1.length-i≤kq)∧Aside0 (o.length=o1.length)∧Aside0 (Kd.R (Kd.int .i64) 3 w' w.heap.size (fun _=>True) (.slice Ao o1.length co) o)∧Aside0 (Below w.heap.size w w'))
 case atStart=>exact ⟨0,o1,rfl,HF2,⟨Nat.zero_le _,Nat.le_refl _⟩,⟨rfl⟩,HC2,HB3⟩
 case round =>
  obtain ⟨i,o,rfl,HF,HI,HOL,HO,HB⟩:=hrel
  clear HF2 HC2 HB3
  by_cases hi:i<l1.length
  case neg=>
   have hil:l1.length≤i:=by omega
   have hf:=HF.out
   rw [List.drop_eq_nil_of_le hil] at hf
   simp only [Ya.lp] at hf
   subst hf
   clear HF
   have hiI:((i:Int)<(l1.length:Int))=False:=eq_false (by omega)
   go_wp2_with (go_at_call 150;(with_reducible refine (hcarry _ _ ?s1 ?s2).mono ?_);(case s1=>exact HB.out);(case s2=>exact Kd.R_mono (Kd.R_bound HO.out) (fun _ hk=>hk.2.1));clear hcarry;rintro e w5 ⟨v5,rfl,hv,hb,_⟩;have HV:=aZ hv;have HB5:=aZ hb;clear hv hb)
   go_ret
   exact ⟨_,rfl,Kd.V_mono HV.out (fun b hb=>hb.elim id (fun h=>Nat.le_trans HB.out.size h)),HB5.out⟩
  have hC1:=Kd.C_below HR1.out HB.out
  obtain ⟨ad1,e1,hx1⟩:=Kd.at_int hC1 (i:Int) (by omega) (by omega)
  subst e1
  rw [Int.toNat_natCast] at hx1
  have hio:i<o.length:=by have:=HOL.out;have:=HO1L.out;have:=EM.out;omega
  obtain ⟨go,cg,eg,g1,g2,_,_⟩:=Kd.R_form HO.out (by omega)
  injection eg with eA en ec
  subst eA ec
  obtain ⟨hx2,hf2⟩:=Kd.R_celln 0 HO.out (i:Int) (by omega) (by omega)
  rw [Int.toNat_natCast] at hx2 hf2
  replace hx2:wr.cell? ⟨go,i,none⟩=some (.int .i64 (rd o (i:Int))):=hx2
  have hlp:=HF.out
  rw [List.drop_eq_getElem_cons hi] at hlp
  simp only [Ya.lp] at hlp
  have hrd:l1[i]=rd l1 (i:Int):=by unfold rd;rw [Int.toNat_natCast,List.getD_eq_getElem?_getD,List.getElem?_eq_getElem hi];rfl
  rw [hrd] at hlp
  obtain ⟨hP,hg⟩:=Kd.R_putg HO.out (i:Int) (wrap64 (rd o (i:Int)+wrap64 (a2*rd l1 (i:Int))))
  rw [Int.toNat_natCast] at hP hg
  have HP:=aZ hP
  have HLP:=aZ hlp
  have HB4:=aZ (below_set (j:=i) (v:=.int .i64 (wrap64 (rd o (i:Int)+wrap64 (a2*rd l1 (i:Int))))) HB.out g1)
  have hlt:(i<o1.length)=True:=eq_true (by have:=HOL.out;omega)
  have hltI:((i:Int)<(o1.length:Int))=True:=eq_true (by have:=HOL.out;omega)
  have hbd:(i:Int)≤1099511627776:=by have:=HL.out;omega
  clear hC1 hP hg hlp hrd hio en g1 g2
  go_wp2
  go_roundg (l1.length-(i+1))
  case measure=>have:=HI.out;omega
  case rel=>exact ⟨i+1,_,by first|rfl|(congr 1;unfold wrap64;omega)|(simp;done),HLP,⟨by omega,Nat.le_refl _⟩,⟨by rw [List.length_set];exact HOL.out⟩,HP,HB4⟩
end
def Y9.l0:Nat→List Int→List Int→Int→Option (Int)
 | 0,_,_,_=>none
 | k+1,x0,x1,x5=>if x5≥0 then (if 0≤x5 then (if x5<(x0.length:Int) then (if x5<(x1.length:Int) then (if (rd x0 x5)=(rd x1 x5) then (Y9.l0 k x0 x1 (wrap64 (x5-1))) else (some (wrap64 ((rd x0 x5)-(rd x1 x5))))) else (none)) else (none)) else (none)) else (some 0)
def Y9.f (k:Nat) (l0:List Int) (l1:List Int):Option (Int):=if (l0.length:Int)=(l1.length:Int) then (Y9.l0 k l0 l1 (wrap64 ((l0.length:Int)-1))) else (some (wrap64 ((l0.length:Int)-(l1.length:Int))))
theorem Y9.mono_l:∀ k,(∀ y0 y1 y2,LeO (Y9.l0 k y0 y1 y2) (Y9.l0 (k+1) y0 y1 y2))
 | 0=>fun _ _ _ r h=>by simp [Y9.l0] at h
 | k+1=>by
  have ih0:=Y9.mono_l k
  ·intro y0 y1 y2
   unfold Y9.l0
   exact zM
theorem Y9.mono:∀ a0 a1 k,LeO (Y9.f k a0 a1) (Y9.f (k+1) a0 a1):=by
 intro a0 a1 k
 have ih0:=Y9.mono_l k
 unfold Y9.f
 exact zM
theorem Y9.calls (k:Nat) (A0:Option Addr) (c0:Nat) (l0:List Int) (A1:Option Addr) (c1:Nat) (l1:List Int) (r:Int) (w:World) (hr0:Kd.C (Kd.int .i64) w A0 l0.length l0) (hc0:l0.length≤c0) (hr1:Kd.C (Kd.int .i64) w A1 l1.length l1) (hc1:l1.length≤c1) (h:Y9.f k l0 l1=some r) :
  Calls Tryz.prog 120 #[.slice A0 l0.length c0,.slice A1 l1.length c1] w fun e w'=>e = .returned (.int .i64 r)∧Drawn0 w w':=by
 have HR0:=aZ hr0
 have HC0:=aZ hc0
 clear hr0 hc0
 have HR1:=aZ hr1
 have HC1:=aZ hc1
 clear hr1 hc1
 have H:=h
 unfold Y9.f at H
 clear h
 by_cases c3:(l0.length:Int)=(l1.length:Int)
 case neg=>
  rw [if_neg c3] at H
  obtain ⟨c3b0,c3b1⟩:=zX c3
  have c3b2:(l0.length==l1.length)=false:=by first|simpa using c3|(simp at c3 ⊢;omega)
  obtain rfl:=Option.some.inj H
  go_enter func120,ntmps120
  go_wp2
  repeat (go_quiet (fail);try go_wp2)
  go_ret
  exact ⟨zs,by repeat (first|exact Drawn0.refl _|apply Drawn0.step)⟩
 rw [if_pos c3] at H
 obtain ⟨c3b0,c3b1⟩:=zY c3
 have c3b2:(l0.length==l1.length)=true:=by first|simpa using c3|(simp at c3 ⊢;omega)
 clear c3
 have H':=aZ H
 clear H
 go_enter func120,ntmps120
 go_wp2
 repeat (go_quiet (fail);try go_wp2)
 go_loopg [5] k (fun kq v5 w'=>∃ (x5_1:Int),v5 = .int .i64 x5_1∧Aside0 (Y9.l0 kq l0 l1 x5_1=some r)∧Aside0 (kq≤k)∧Drawn0 w w')
 case atStart=>exact ⟨(wrap64 ((l0.length:Int)-1)),zs,H',⟨Nat.le_refl _⟩,by repeat (first|exact Drawn0.refl _|apply Drawn0.step)⟩
 case round =>
  clear H'
  try clear c1
  try clear c3
  try clear c3b0
  try clear c3b1
  try clear c3b2
  obtain ⟨x5_1,rfl,HA,HK1,⟨m1,rfl⟩⟩:=hrel
  cases gk with
  | zero=>exact absurd HA.out (by simp [Y9.l0])
  | succ k1 =>
   have H:=HA.out
   clear HA
   simp only [Y9.l0] at H
   by_cases c4:x5_1≥0
   case neg=>
    rw [if_neg c4] at H
    have c4b0:=decide_eq_false c4
    clear c4
    obtain rfl:=Option.some.inj H
    go_wp2
    repeat (go_quiet (fail);try go_wp2)
    go_ret
    exact ⟨zs,by repeat (first|exact Drawn0.refl _|apply Drawn0.step)⟩
   rw [if_pos c4] at H
   have c4b0:=decide_eq_true c4
   clear c4
   by_cases c5:0≤x5_1
   case neg=>
    rw [if_neg c5] at H
    cases H
   rw [if_pos c5] at H
   have c5b0:=decide_eq_true c5
   clear c5
   by_cases c6:x5_1<(l0.length:Int)
   case neg=>
    rw [if_neg c6] at H
    cases H
   rw [if_pos c6] at H
   have c6b0:=decide_eq_true c6
   clear c6
   by_cases c7:x5_1<(l1.length:Int)
   case neg=>
    rw [if_neg c7] at H
    cases H
   rw [if_pos c7] at H
   have c7b0:=decide_eq_true c7
   clear c7
   by_cases c8:(rd l0 x5_1)=(rd l1 x5_1)
   case neg=>
    rw [if_neg c8] at H
    obtain ⟨c8b0,c8b1⟩:=zX c8
    obtain rfl:=Option.some.inj H
    have p413:0≤(x5_1:Int):=zd
    have q413:x5_1<(l0.length:Int):=zd
    obtain ⟨ad413,e413,hx413_0⟩:=Kd.at_int HR0.out x5_1 p413 q413
    cases e413
    replace p413:=eq_true p413
    replace q413:=eq_true q413
    have p414:0≤(x5_1:Int):=zd
    have q414:x5_1<(l1.length:Int):=zd
    obtain ⟨ad414,e414,hx414_0⟩:=Kd.at_int HR1.out x5_1 p414 q414
    cases e414
    replace p414:=eq_true p414
    replace q414:=eq_true q414
    have p415:0≤(x5_1:Int):=zd
    have q415:x5_1<(l0.length:Int):=zd
    obtain ⟨ad415,e415,hx415_0⟩:=Kd.at_int HR0.out x5_1 p415 q415
    obtain rfl:ad413=ad415:=(by injection e415)
    replace p415:=eq_true p415
    replace q415:=eq_true q415
    have p416:0≤(x5_1:Int):=zd
    have q416:x5_1<(l1.length:Int):=zd
    obtain ⟨ad416,e416,hx416_0⟩:=Kd.at_int HR1.out x5_1 p416 q416
    obtain rfl:ad414=ad416:=(by injection e416)
    replace p416:=eq_true p416
    replace q416:=eq_true q416
    go_wp2
    repeat (go_quiet (fail);try go_wp2)
    go_ret
    exact ⟨zs,by repeat (first|exact Drawn0.refl _|apply Drawn0.step)⟩
   rw [if_pos c8] at H
   obtain ⟨c8b0,c8b1⟩:=zY c8
   clear c8
   have H':=aZ H
   clear H
   have p413:0≤(x5_1:Int):=zd
   have q413:x5_1<(l0.length:Int):=zd
   obtain ⟨ad413,e413,hx413_0⟩:=Kd.at_int HR0.out x5_1 p413 q413
   cases e413
   replace p413:=eq_true p413
   replace q413:=eq_true q413
   have p414:0≤(x5_1:Int):=zd
   have q414:x5_1<(l1.length:Int):=zd
   obtain ⟨ad414,e414,hx414_0⟩:=Kd.at_int HR1.out x5_1 p414 q414
   cases e414
   replace p414:=eq_true p414
   replace q414:=eq_true q414
   go_wp2
   repeat (go_quiet (fail);try go_wp2)
   go_roundg k1
   case measure=>have:=HK1.out;omega
   case rel=>exact ⟨(wrap64 (x5_1-1)),zs,H',⟨by have:=HK1.out;omega⟩,by repeat (first|exact Drawn0.refl _|apply Drawn0.step)⟩
section
def YS.f (l0:List Int):Option (List Int):=if l0.length<17592186044416 then some l0 else none
theorem YS.calls (A0:Option Addr) (c0:Nat) (l0:List Int) (r:List Int) (w:World) (hr0:Kd.C (Kd.int .i64) w A0 l0.length l0) (hc0:l0.length≤c0) (h:YS.f l0=some r) :
  Calls Tryz.prog 160 #[.slice A0 l0.length c0] w fun e w'=>∃ v0_:Value,e = .returned (v0_)∧Kd.R (Kd.int .i64) 3 w' w.heap.size (fun _=>True) v0_ r∧Below w.heap.size w w':=by
 unfold YS.f at h
 by_cases c2:l0.length<17592186044416
 case neg=>rw [if_neg c2] at h;cases h
 rw [if_pos c2] at h
 obtain rfl:=Option.some.inj h
 clear h
 cases A0 with
 | none =>
  have hz:l0=[]:=by
   rcases Nat.eq_zero_or_pos l0.length with h0|h0
   ·exact List.eq_nil_of_length_eq_zero h0
   ·obtain ⟨ad,e,_⟩:=hr0.2.2 h0;cases e
  subst hz
  have hnil:=fun (W:World)=>Lib.run_eql_slice_nil (P:=Tryz.prog) W 65 3 none 0 c0 0 0 underlying65
  clear hr0 hc0 c2
  go_enter func160,ntmps160
  go_wp2
  go_ret
  exact ⟨_,rfl,Kd.R_nil _ _ _ _ _,Below.refl _ _⟩
 | some ad =>
  have HR0:=aZ hr0
  clear hr0 hc0
  have hnil:=fun (W:World) (n:Nat)=>Lib.run_eql_slice_nil (P:=Tryz.prog) W 65 3 (some ad) n c0 0 0 underlying65
  have HB:=aZ (Below.refl w.heap.size w)
  have LMc2:=aZ c2
  clear c2
  have info97c:(Tryz.prog.info? 3).map (fun i=>(i.zero,i.size,i.bytes))=some (some (.int .i64 0),1,8):=by kernel_rfl
  have I:=aZ info97c
  clear info97c
  go_enter func160,ntmps160
  go_wp2_with (first|((with_reducible refine gate_dst (N:=5) rfl ?_);refine Kd.R_lit (Kd.int .i64) _ 3 ?hg (N:=5) ?hd (xs:=([]:List Int)) (inner:=[]) (ok:=fun _=>True) (okp:=fun _=>True) ?hr ?hp (fun _ hk=>hk) trivial (Below.refl _ _) (Nat.le_refl _) (by simp) ?_;(case hd=>rfl);(case hg=>rfl);(case hr=>first|(go_simp;done)|(go_simp;rfl));(case hp=>exact (Reps.none _ _));intro v102 w3 ho4 hb hg_ hnew_;clear hg_ hnew_;have HO103:=aZ (Kd.R_lower ho4 bs);replace HB:=sB hb;clear hb ho4)|((with_reducible refine gate_builtin (b:=.append) (xs:=#[.tmp 5,.tmp 6]) rfl ?_);at_builtin;refine Kd.R_append_rows (Kd.int .i64) (w0:=w) w.heap.size rfl (.tmp 5) (.tmp 6) 65 3 (.int .i64 0) 8 rfl underlying65 I.out rfl (by decide) (by omega) v102 ([]:List Int) l0 _ _ _ (fun _=>True) (fun _=>False) rfl rfl ?aO ?aR (fun _ _ h=>h) (fun _ h=>h.elim) ?aF ?aB ?aS ?aL ?_;(case aR=>exact zC (Kd.C_below HR0.out HB.out));(case aB=>exact bw);(case aF=>exact (fun _ _=>trivial));(case aO=>exact (zR HO103));(case aS=>exact bs);(case aL=>have:=LMc2.out;simp;omega);intro v105 w5 ho hb hg hat;rw [List.nil_append] at ho;replace HB:=aZ (hb);have HO106:=aZ (ho);clear HO103;clear ho hb hg hat))
  go_ret
  exact ⟨_,rfl,zR HO106,bw⟩
end
end Go.Proofs.YtaffkbemjbfajaaGreatDoor.PNumMultipliers
