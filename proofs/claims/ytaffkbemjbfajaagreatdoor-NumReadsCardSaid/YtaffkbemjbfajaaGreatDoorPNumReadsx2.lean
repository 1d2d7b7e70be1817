-- By a program of this session: functions as plain Lean functions, each with its proof over the machine.
import Derived.Test.YtaffkbemjbfajaaGreatDoorPNumReadsx0
import Derived.Test.YtaffkbemjbfajaaGreatDoorPNumReadsx1
namespace Go.Proofs.YtaffkbemjbfajaaGreatDoor.PNumReads
open Go.RowKit Go.Proofs.Tryz Go.Proofs.YtaffkbemjbfajaaGreatDoorW.PrintWords Go.Proofs.YtaffkbemjbfajaaGreatDoorW.PrintLast Go.Proofs.YtaffkbemjbfajaaGreatDoorW.PrintMore
attribute [local go_sem] max2_int min2_int max_two min_two max_three min_three max_four min_four
set_option linter.unusedVariables false
set_option linter.unusedSimpArgs false
set_option maxHeartbeats 8000000
set_option maxRecDepth 100000
def IsS44 (w0 W:World) (g:Nat) (f0:List Int) (f1:Int):Prop:=∃ A0 c0,W.heap[g]? = some (.cells #[.slice A0 f0.length c0,.int .i64 f1] 44 (0,0))∧w0.heap.size≤g∧Kd.C (Kd.int .i64) w0 A0 f0.length f0
theorem IsS44.grown {w0 W:World} {g:Nat} {f0:List Int} {f1:Int} {W1:World} {row:Option Nat} (h:IsS44 w0 W g f0 f1) (hw:W.grownBy W1 row) (hne:some g≠row):IsS44 w0 W1 g f0 f1:=by
 obtain ⟨A0,c0,hb,hg,hr0⟩:=h
 exact ⟨A0,c0,blk_grown hb hw hne,hg,hr0⟩
theorem IsS44.fresh {w0 W:World} {g:Nat} {f0:List Int} {f1:Int} (h:IsS44 w0 W g f0 f1):∀ k,W.heap.size≤k→k≠g:=by
 obtain ⟨A0,c0,hb,hg,hr0⟩:=h
 exact Kd.freshB hb
theorem IsS44.kept {w0 W:World} {g:Nat} {f0:List Int} {f1:Int} {W1:World} {S:Nat→Prop} (h:IsS44 w0 W g f0 f1) (hk:Kept W W1 S) (hne:¬ S g):IsS44 w0 W1 g f0 f1:=by
 obtain ⟨A0,c0,hb,hg,hr0⟩:=h
 exact ⟨A0,c0,blk_kept hb hk hne,hg,hr0⟩
theorem IsS44.below {w0 W:World} {g:Nat} {f0:List Int} {f1:Int} {W1:World} (h:IsS44 w0 W g f0 f1) (hw:Below W.heap.size W W1):IsS44 w0 W1 g f0 f1:=h.grown (grown_of_below hw none) (by simp)
theorem IsS44.alloc {w0 W:World} {g:Nat} {f0:List Int} {f1:Int} (h:IsS44 w0 W g f0 f1) (o:Obj):IsS44 w0 (W.alloc o) g f0 f1:=h.below (below_alloc (Below.refl _ _) o)
theorem IsS44.drewN {w0 W:World} {g:Nat} {f0:List Int} {f1:Int} (h:IsS44 w0 W g f0 f1) (m:Nat):IsS44 w0 (W.drewN m) g f0 f1:=h
theorem IsS44.drew {w0 W:World} {g:Nat} {f0:List Int} {f1:Int} (h:IsS44 w0 W g f0 f1):IsS44 w0 W.drew g f0 f1:=h
theorem IsS44.at_ {w0 W:World} {g:Nat} {f0:List Int} {f1:Int} {w':World} {m:Nat} (hq:W.drewN m=w') (h:IsS44 w0 W g f0 f1):IsS44 w0 w' g f0 f1:=by subst hq;exact IsS44.drewN h m
theorem IsS44.apart {w0 W:World} {g:Nat} {f0:List Int} {f1:Int} {α:Type} {d:Kd α} {e:Nat} {base:Nat} {ok:Nat→Prop} {v:Value} {xs:List α} (h:IsS44 w0 W g f0 f1) (ho:d.R e W base ok v xs) (ht:∀ q,q ∈ e :: d.E→q≠44):d.R e W base (fun k=>ok k∧k≠g) v xs:=by
 obtain ⟨A0,c0,hb,hg,hr0⟩:=h
 exact Kd.R_types ho hb ht
theorem IsS44.own_ne {w0 W:World} {g:Nat} {f0:List Int} {f1:Int} {α:Type} {d:Kd α} {e:Nat} {base:Nat} {ok:Nat→Prop} {v:Value} {xs:List α} (h:IsS44 w0 W g f0 f1) (ho:d.R e W base ok v xs) (ht:e≠44):some g≠v.ownBlock:=by
 obtain ⟨A0,c0,hb,hg,hr0⟩:=h
 exact Kd.R_ne ho hb ht
theorem IsS44.lt {w0 W:World} {g:Nat} {f0:List Int} {f1:Int} (h:IsS44 w0 W g f0 f1):g<W.heap.size:=by
 obtain ⟨A0,c0,hb,hg,hr0⟩:=h
 exact blk_lt hb
theorem IsS44.ge {w0 W:World} {g:Nat} {f0:List Int} {f1:Int} (h:IsS44 w0 W g f0 f1):w0.heap.size≤g:=by
 obtain ⟨A0,c0,hb,hg,hr0⟩:=h
 exact hg
theorem IsS44.far {w0 W:World} {g:Nat} {f0:List Int} {f1:Int} {p:Addr} (h:IsS44 w0 W g f0 f1) (hne:g≠p.block) (u:Value):IsS44 w0 (W.setCell p u) g f0 f1:=by
 obtain ⟨A0,c0,hb,hg,hr0⟩:=h
 exact ⟨A0,c0,blk_far hb hne u,hg,hr0⟩
theorem cellS44_0 {W:World} {g:Nat} {A0:Option Addr} {c0:Nat} {f0:List Int} {f1:Int} (h:W.heap[g]? = some (.cells #[.slice A0 f0.length c0,.int .i64 f1] 44 (0,0))):W.cell? ⟨g,0,none⟩=some (.slice A0 f0.length c0):=(blk_cell h 0).trans rfl
theorem cellS44_1 {W:World} {g:Nat} {A0:Option Addr} {c0:Nat} {f0:List Int} {f1:Int} (h:W.heap[g]? = some (.cells #[.slice A0 f0.length c0,.int .i64 f1] 44 (0,0))):W.cell? ⟨g,1,none⟩=some (.int .i64 f1):=(blk_cell h 1).trans rfl
theorem IsS44.set_1 {w0 W:World} {g:Nat} {f0:List Int} {f1:Int} (h:IsS44 w0 W g f0 f1) (x:Int):IsS44 w0 (W.setCell ⟨g,1,none⟩ (.int .i64 x)) g f0 x:=by
 obtain ⟨A0,c0,hb,hg,hr0⟩:=h
 exact ⟨A0,c0,by simpa using blk_set hb 1 (.int .i64 x),hg,hr0⟩
theorem IsS44.new (w0 W:World) (A0:Option Addr) (c0:Nat) (f0:List Int) (f1:Int) (hB:Below w0.heap.size w0 W) (hr0:Kd.C (Kd.int .i64) w0 A0 f0.length f0):IsS44 w0 (W.alloc (.cells #[.slice A0 f0.length c0,.int .i64 f1] 44)) W.heap.size f0 f1:=⟨A0,c0,by simpa using heap_alloc_new W _,hB.size,hr0⟩
def Y0.f (s0_0:List Int) (s0_1:Int) (a1:Int):Option (Int×Int):=if (s0_0.length:Int)=0 then ((Yv.f (wrap64 ((wrap64 (s0_1+1))*7919)) a1).bind fun t301=>(some (t301,wrap64 (s0_1+1)))) else (if 0≤(Int.tmod (wrap64 ((wrap64 (s0_1+1))-1)) (s0_0.length:Int)) then (if (Int.tmod (wrap64 ((wrap64 (s0_1+1))-1)) (s0_0.length:Int))<(s0_0.length:Int) then ((Yv.f (rd s0_0 (Int.tmod (wrap64 ((wrap64 (s0_1+1))-1)) (s0_0.length:Int))) 1073741824).bind fun t303=>((Yv.f (wrap64 (t303+(wrap64 ((wrap64 (Int.tdiv (wrap64 ((wrap64 (s0_1+1))-1)) (s0_0.length:Int)))*(wrap64 (7919+(Int.tmod (wrap64 ((wrap64 (s0_1+1))-1)) (s0_0.length:Int)))))))) a1).bind fun t304=>(some (t304,wrap64 (s0_1+1))))) else (none)) else (none))
theorem Y0.calls (g:Nat) (s0_0:List Int) (s0_1:Int) (a1:Int) (r1:Int) (r2:Int) (w0 w:World) (hI:IsS44 w0 w g s0_0 s0_1) (hB:Below w0.heap.size w0 w) (h:Y0.f s0_0 s0_1 a1=some (r1,r2)) :
  Calls Tryz.prog 33 #[.pointer (some ⟨g,0,none⟩),.int .i64 a1] w fun e w'=>e = .returned (.int .i64 r1)∧IsS44 w0 w' g s0_0 r2∧Below w0.heap.size w0 w'∧KeepBut w w' g none:=by
 have HI0:=aZ hI
 have HK:=aZ (KeepBut.refl w g none)
 have HL:=aZ hB.size
 clear hI
 have HW0:=aZ hB.size
 have HB:=aZ hB
 clear hB
 have H:=h
 unfold Y0.f at H
 clear h
 by_cases c3:(s0_0.length:Int)=0
 case neg=>
  rw [if_neg c3] at H
  obtain ⟨c3b0,c3b1⟩:=zX c3
  have c3b2:¬ (s0_0=[]):=fun h_=>c3 (by rw [h_];rfl)
  obtain ⟨ji6,hji6⟩:∃ j_:Int,(Int.tmod (wrap64 ((wrap64 (s0_1+1))-1)) (s0_0.length:Int))=j_:=⟨_,rfl⟩
  (first|rw [hji6] at H|simp only [hji6] at H)
  by_cases c7:0≤(ji6)
  case neg=>
   rw [if_neg c7] at H
   cases H
  rw [if_pos c7] at H
  have c7b0:=decide_eq_true c7
  clear c7
  by_cases c8:(ji6)<(s0_0.length:Int)
  case neg=>
   rw [if_neg c8] at H
   cases H
  rw [if_pos c8] at H
  have c8b0:=decide_eq_true c8
  clear c8
  obtain ⟨t303,A9,H⟩:=zB H
  obtain ⟨t304,A10,H⟩:=zB H
  simp only [Option.some.injEq,Prod.mk.injEq] at H
  obtain ⟨rfl,rfl⟩:=H
  obtain ⟨ASz11_0,cSz11_0,HGz11,hgz11,HSz11_0⟩:=HI0.out
  have hcz11_0:=cellS44_0 HGz11
  have hcz11_1:=cellS44_1 HGz11
  have hfz11_1:=blk_frozen HGz11 1
  clear HGz11 hgz11
  have p302:0≤((ji6):Int):=zd
  have q302:(ji6)<(s0_0.length:Int):=zd
  obtain ⟨ad302,e302,hx302_0⟩:=Kd.at_int HSz11_0 (ji6) p302 q302
  cases e302
  have hn302_0:ad302.block≠g:=Nat.ne_of_lt (Nat.lt_of_lt_of_le (by have:=World.block_lt_of_cell? _ _ hx302_0;first|rwa [add_block] at this|exact this) (IsS44.ge HI0.out))
  replace hx302_0:=pw_cell_below HB.out hx302_0
  replace hx302_0:=(cell_far (p:=⟨g,1,none⟩) (by first|(rw [add_block];exact hn302_0)|(show (Addr.add _ _).block≠_;rw [add_block];exact hn302_0)|exact hn302_0) (.int .i64 (wrap64 (s0_1+1)))).trans hx302_0
  (try have hy302_0:=fun (n_:Nat)=>(show (((w.drewN n_).setCell ⟨g,1,none⟩ (.int .i64 (wrap64 (s0_1+1))))).cell? _=some _ from hx302_0))
  clear hn302_0
  replace p302:=eq_true p302
  replace q302:=eq_true q302
  go_enter func33,ntmps33
  go_wp2_with (first|(go_at_call 91;(with_reducible refine (Yv.calls (rd s0_0 (ji6)) 1073741824 t303 _ A9.out).mono ?_);rintro e w' ⟨rfl,⟨nd,rfl⟩⟩;(try first|exact ⟨rfl,_,World.drewN_drewN _ _ _⟩|exact ⟨rfl,_,Eq.trans (World.drewN_drewN _ _ _) (congrArg (World.drewN _) (Nat.add_assoc _ _ _))⟩))|(go_at_call 91;(with_reducible refine (Yv.calls (wrap64 (t303+(wrap64 ((wrap64 (Int.tdiv (wrap64 ((wrap64 (s0_1+1))-1)) (s0_0.length:Int)))*(wrap64 (7919+(ji6))))))) a1 t304 _ A10.out).mono ?_);rintro e w' ⟨rfl,⟨nd,rfl⟩⟩;(try first|exact ⟨rfl,_,World.drewN_drewN _ _ _⟩|exact ⟨rfl,_,Eq.trans (World.drewN_drewN _ _ _) (congrArg (World.drewN _) (Nat.add_assoc _ _ _))⟩)))
  repeat (go_quiet (first|(go_at_call 91;(with_reducible refine (Yv.calls (rd s0_0 (ji6)) 1073741824 t303 _ A9.out).mono ?_);rintro e w' ⟨rfl,⟨nd,rfl⟩⟩;(try first|exact ⟨rfl,_,World.drewN_drewN _ _ _⟩|exact ⟨rfl,_,Eq.trans (World.drewN_drewN _ _ _) (congrArg (World.drewN _) (Nat.add_assoc _ _ _))⟩))|(go_at_call 91;(with_reducible refine (Yv.calls (wrap64 (t303+(wrap64 ((wrap64 (Int.tdiv (wrap64 ((wrap64 (s0_1+1))-1)) (s0_0.length:Int)))*(wrap64 (7919+(ji6))))))) a1 t304 _ A10.out).mono ?_);rintro e w' ⟨rfl,⟨nd,rfl⟩⟩;(try first|exact ⟨rfl,_,World.drewN_drewN _ _ _⟩|exact ⟨rfl,_,Eq.trans (World.drewN_drewN _ _ _) (congrArg (World.drewN _) (Nat.add_assoc _ _ _))⟩)));try go_wp2_with (first|(go_at_call 91;(with_reducible refine (Yv.calls (rd s0_0 (ji6)) 1073741824 t303 _ A9.out).mono ?_);rintro e w' ⟨rfl,⟨nd,rfl⟩⟩;(try first|exact ⟨rfl,_,World.drewN_drewN _ _ _⟩|exact ⟨rfl,_,Eq.trans (World.drewN_drewN _ _ _) (congrArg (World.drewN _) (Nat.add_assoc _ _ _))⟩))|(go_at_call 91;(with_reducible refine (Yv.calls (wrap64 (t303+(wrap64 ((wrap64 (Int.tdiv (wrap64 ((wrap64 (s0_1+1))-1)) (s0_0.length:Int)))*(wrap64 (7919+(ji6))))))) a1 t304 _ A10.out).mono ?_);rintro e w' ⟨rfl,⟨nd,rfl⟩⟩;(try first|exact ⟨rfl,_,World.drewN_drewN _ _ _⟩|exact ⟨rfl,_,Eq.trans (World.drewN_drewN _ _ _) (congrArg (World.drewN _) (Nat.add_assoc _ _ _))⟩))))
  go_ret
  exact ⟨by first|rfl|(simp [errW_none,errW_some] <;> rfl)|(simp only [← hji6];first|rfl|(simp [errW_none,errW_some] <;> rfl))|(simp [*,errW_none,errW_some] <;> rfl),zi HI0,bw,kk⟩
 rw [if_pos c3] at H
 obtain ⟨c3b0,c3b1⟩:=zY c3
 clear c3
 obtain ⟨t301,A4,H⟩:=zB H
 simp only [Option.some.injEq,Prod.mk.injEq] at H
 obtain ⟨rfl,rfl⟩:=H
 obtain ⟨ASz5_0,cSz5_0,HGz5,hgz5,HSz5_0⟩:=HI0.out
 have hcz5_0:=cellS44_0 HGz5
 have hcz5_1:=cellS44_1 HGz5
 have hfz5_1:=blk_frozen HGz5 1
 clear HGz5 hgz5
 go_enter func33,ntmps33
 go_wp2_with (first|(go_at_call 91;(with_reducible refine (Yv.calls (wrap64 ((wrap64 (s0_1+1))*7919)) a1 t301 _ A4.out).mono ?_);rintro e w' ⟨rfl,⟨nd,rfl⟩⟩;(try first|exact ⟨rfl,_,World.drewN_drewN _ _ _⟩|exact ⟨rfl,_,Eq.trans (World.drewN_drewN _ _ _) (congrArg (World.drewN _) (Nat.add_assoc _ _ _))⟩)))
 repeat (go_quiet (first|(go_at_call 91;(with_reducible refine (Yv.calls (wrap64 ((wrap64 (s0_1+1))*7919)) a1 t301 _ A4.out).mono ?_);rintro e w' ⟨rfl,⟨nd,rfl⟩⟩;(try first|exact ⟨rfl,_,World.drewN_drewN _ _ _⟩|exact ⟨rfl,_,Eq.trans (World.drewN_drewN _ _ _) (congrArg (World.drewN _) (Nat.add_assoc _ _ _))⟩)));try go_wp2_with (first|(go_at_call 91;(with_reducible refine (Yv.calls (wrap64 ((wrap64 (s0_1+1))*7919)) a1 t301 _ A4.out).mono ?_);rintro e w' ⟨rfl,⟨nd,rfl⟩⟩;(try first|exact ⟨rfl,_,World.drewN_drewN _ _ _⟩|exact ⟨rfl,_,Eq.trans (World.drewN_drewN _ _ _) (congrArg (World.drewN _) (Nat.add_assoc _ _ _))⟩))))
 go_ret
 exact ⟨ze,zi HI0,bw,kk⟩
def Yy.f (a0_0:ByteArray) (a0_1:ByteArray):Option (ByteArray):=if a0_1.toList=([49]:List UInt8) then (some a0_0) else (if a0_0.size+1≤9223372036854775807 then (if (a0_0++(⟨#[47]⟩:ByteArray)).size+a0_1.size≤9223372036854775807 then (some ((a0_0++(⟨#[47]⟩:ByteArray))++a0_1)) else (none)) else (none))
theorem Yy.calls (a0_0:ByteArray) (a0_1:ByteArray) (r:ByteArray) (w:World) (h:Yy.f a0_0 a0_1=some r) :
  Calls Tryz.prog 55 #[.agg #[.string a0_0,.string a0_1]] w fun e w'=>e = .returned (.string r)∧Below w.heap.size w w':=by
 have hu61:=underlying61
 have HB:=aZ (Below.refl w.heap.size w)
 have H:=h
 unfold Yy.f at H
 clear h
 by_cases c2:a0_1.toList=([49]:List UInt8)
 case neg=>
  rw [if_neg c2] at H
  obtain ⟨c2b0,c2b1⟩:=zX c2
  by_cases c5:a0_0.size+1≤9223372036854775807
  case neg=>
   rw [if_neg c5] at H
   cases H
  rw [if_pos c5] at H
  have c5b0:=eq_true c5
  have c5b1:=decide_eq_true c5
  try have c5b2:=eq_false (Nat.not_lt.2 c5)
  by_cases c6:(a0_0++(⟨#[47]⟩:ByteArray)).size+a0_1.size≤9223372036854775807
  case neg=>
   rw [if_neg c6] at H
   cases H
  rw [if_pos c6] at H
  have c6b0:=eq_true c6
  have c6b1:=decide_eq_true c6
  try have c6b2:=eq_false (Nat.not_lt.2 c6)
  obtain rfl:=Option.some.inj H
  go_enter func55,ntmps55
  go_wp2_with (first|(refine box_ev 1 #[.string a0_0,.string a0_1] 61 ?_;intro gb305 hg w7 hbox hb;have BK305:=aZ hbox;have GE305:=sG hg;replace HB:=sB hb;clear hb hbox hg;obtain ⟨hcz8_0,hfz8_0⟩:=zc BK305 0 (.string a0_0) rfl;obtain ⟨hcz8_1,hfz8_1⟩:=zc BK305 1 (.string a0_1) rfl))
  go_ret
  exact ⟨ze,bw⟩
 rw [if_pos c2] at H
 obtain ⟨c2b0,c2b1⟩:=zY c2
 clear c2
 obtain rfl:=Option.some.inj H
 go_enter func55,ntmps55
 go_wp2_with (first|(refine box_ev 1 #[.string a0_0,.string a0_1] 61 ?_;intro gb305 hg w3 hbox hb;have BK305:=aZ hbox;have GE305:=sG hg;replace HB:=sB hb;clear hb hbox hg;obtain ⟨hcz4_0,hfz4_0⟩:=zc BK305 0 (.string a0_0) rfl;obtain ⟨hcz4_1,hfz4_1⟩:=zc BK305 1 (.string a0_1) rfl))
 go_ret
 exact ⟨ze,bw⟩
def Y8.f (s0_0:List Int) (s0_1:Int) (a1:Int) (a2:Int):Option (Int×Int):=if a2<a1 then (some (a1,s0_1)) else ((Y0.f s0_0 s0_1 (wrap64 ((wrap64 (a2-a1))+1))).bind fun bt306=>(some (wrap64 (a1+bt306.1),bt306.2)))
theorem Y8.calls (g:Nat) (s0_0:List Int) (s0_1:Int) (a1:Int) (a2:Int) (r1:Int) (r2:Int) (w0 w:World) (hI:IsS44 w0 w g s0_0 s0_1) (hB:Below w0.heap.size w0 w) (h:Y8.f s0_0 s0_1 a1 a2=some (r1,r2)) :
  Calls Tryz.prog 37 #[.pointer (some ⟨g,0,none⟩),.int .i64 a1,.int .i64 a2] w fun e w'=>e = .returned (.int .i64 r1)∧IsS44 w0 w' g s0_0 r2∧Below w0.heap.size w0 w'∧KeepBut w w' g none:=by
 have HI0:=aZ hI
 have HK:=aZ (KeepBut.refl w g none)
 have HL:=aZ hB.size
 clear hI
 have HW0:=aZ hB.size
 have HB:=aZ hB
 clear hB
 have H:=h
 unfold Y8.f at H
 clear h
 by_cases c4:a2<a1
 case neg=>
  rw [if_neg c4] at H
  have c4b0:=decide_eq_false c4
  clear c4
  obtain ⟨⟨t306,t307⟩,A5,H⟩:=zB H
  (try dsimp only at H)
  simp only [Option.some.injEq,Prod.mk.injEq] at H
  obtain ⟨rfl,rfl⟩:=H
  go_enter func37,ntmps37
  go_wp2_with (first|(refine zg (some 17) func33 #[.pointer (some ⟨g,0,none⟩),.int .i64 (wrap64 ((wrap64 (a2-a1))+1))] ?_;(with_reducible refine (Y0.calls g s0_0 s0_1 (wrap64 ((wrap64 (a2-a1))+1)) t306 t307 w0 _ ?side1 ?side2 A5.out).mono ?_);(case side1=>exact zi HI0);(case side2=>exact bw);rintro e w6 ⟨rfl,hi,hb,hk⟩;refine ⟨_,rfl,?_⟩;replace HK:=sT hk;replace HB:=aZ (hb);replace HI0:=aZ (hi);clear hb hk hi))
  go_ret
  exact ⟨ze,zi HI0,bw,kk⟩
 rw [if_pos c4] at H
 have c4b0:=decide_eq_true c4
 clear c4
 simp only [Option.some.injEq,Prod.mk.injEq] at H
 obtain ⟨rfl,rfl⟩:=H
 go_enter func37,ntmps37
 go_wp2
 go_ret
 exact ⟨ze,zi HI0,bw,kk⟩
def YG.f (s0_0:List Int) (s0_1:Int) (l1:List Int):Option (Int×Int):=(Y0.f s0_0 s0_1 (l1.length:Int)).bind fun bt308=>(if 0≤bt308.1 then (if bt308.1<(l1.length:Int) then (some (rd l1 bt308.1,bt308.2)) else (none)) else (none))
theorem YG.calls (g:Nat) (s0_0:List Int) (s0_1:Int) (A1:Option Addr) (c1:Nat) (l1:List Int) (r1:Int) (r2:Int) (w0 w:World) (hI:IsS44 w0 w g s0_0 s0_1) (hB:Below w0.heap.size w0 w) (hr1:Kd.C (Kd.int .i64) w A1 l1.length l1) (hc1:l1.length≤c1) (hf1:∀ ad,A1=some ad→0<l1.length→ad.block≠g) (h:YG.f s0_0 s0_1 l1=some (r1,r2)) :
  Calls Tryz.prog 122 #[.pointer (some ⟨g,0,none⟩),.slice A1 l1.length c1] w fun e w'=>e = .returned (.int .i64 r1)∧IsS44 w0 w' g s0_0 r2∧Below w0.heap.size w0 w'∧KeepBut w w' g none:=by
 have HR1:=aZ hr1
 have HC1:=aZ hc1
 clear hr1 hc1
 have HI0:=aZ hI
 have HK:=aZ (KeepBut.refl w g none)
 have HL:=aZ hB.size
 clear hI
 have HW0:=aZ hB.size
 have HB:=aZ hB
 clear hB
 have H:=h
 unfold YG.f at H
 clear h
 obtain ⟨⟨t308,t309⟩,A3,H⟩:=zB H
 (try dsimp only at H)
 by_cases c4:0≤t308
 case neg=>
  rw [if_neg c4] at H
  cases H
 rw [if_pos c4] at H
 have c4b0:=decide_eq_true c4
 clear c4
 by_cases c5:t308<(l1.length:Int)
 case neg=>
  rw [if_neg c5] at H
  cases H
 rw [if_pos c5] at H
 have c5b0:=decide_eq_true c5
 clear c5
 simp only [Option.some.injEq,Prod.mk.injEq] at H
 obtain ⟨rfl,rfl⟩:=H
 go_enter func122,ntmps122
 go_wp2_with (first|(refine zg (some 9) func33 #[.pointer (some ⟨g,0,none⟩),.int .i64 (l1.length:Int)] ?_;(with_reducible refine (Y0.calls g s0_0 s0_1 (l1.length:Int) t308 t309 w0 _ ?side1 ?side2 A3.out).mono ?_);(case side1=>exact zi HI0);(case side2=>exact bw);rintro e w6 ⟨rfl,hi,hb,hk⟩;refine ⟨_,rfl,?_⟩;replace HK:=sT hk;replace HB:=aZ (hb);replace HI0:=aZ (hi);clear hb hk hi;have p310:0≤(t308:Int):=zd;have q310:t308<(l1.length:Int):=zd;obtain ⟨ad310,e310,hx310_0⟩:=Kd.at_int HR1.out t308 p310 q310;cases e310;replace hx310_0:=keep_cell HK.out hx310_0 (by first|(rw [add_block];exact hf1 _ rfl (by omega))|exact hf1 _ rfl (by omega)|exact hf1 ad310 rfl (by omega));replace p310:=eq_true p310;replace q310:=eq_true q310))
 go_ret
 exact ⟨ze,zi HI0,bw,kk⟩
def YJ.f (s0_0:List Int) (s0_1:Int):Option (Int×Int):=(Y0.f s0_0 s0_1 6).bind fun bt311=>(if bt311.1=0 then ((Y0.f s0_0 bt311.2 3).bind fun bt313=>(some (wrap64 ((-2147483648)+bt313.1),bt313.2))) else (if bt311.1=1 then ((Y0.f s0_0 bt311.2 3).bind fun bt315=>(some (wrap64 (2147483647-bt315.1),bt315.2))) else (if bt311.1=2 then ((Y0.f s0_0 bt311.2 1073741824).bind fun bt317=>((Y0.f s0_0 bt317.2 4).bind fun bt319=>(some (wrap64 ((wrap64 ((wrap64 (bt317.1*4))+bt319.1))+(-2147483648)),bt319.2)))) else ((Y8.f s0_0 bt311.2 (-9) 9).bind fun bt321=>(some (bt321.1,bt321.2))))))
theorem YJ.calls (g:Nat) (s0_0:List Int) (s0_1:Int) (r1:Int) (r2:Int) (w0 w:World) (hI:IsS44 w0 w g s0_0 s0_1) (hB:Below w0.heap.size w0 w) (h:YJ.f s0_0 s0_1=some (r1,r2)) :
  Calls Tryz.prog 123 #[.pointer (some ⟨g,0,none⟩)] w fun e w'=>e = .returned (.int .i64 r1)∧IsS44 w0 w' g s0_0 r2∧Below w0.heap.size w0 w'∧KeepBut w w' g none:=by
 have HI0:=aZ hI
 have HK:=aZ (KeepBut.refl w g none)
 have HL:=aZ hB.size
 clear hI
 have HW0:=aZ hB.size
 have HB:=aZ hB
 clear hB
 have H:=h
 unfold YJ.f at H
 clear h
 obtain ⟨⟨t311,t312⟩,A2,H⟩:=zB H
 (try dsimp only at H)
 by_cases c3:t311=0
 case neg=>
  rw [if_neg c3] at H
  obtain ⟨c3b0,c3b1⟩:=zX c3
  by_cases c7:t311=1
  case neg=>
   rw [if_neg c7] at H
   obtain ⟨c7b0,c7b1⟩:=zX c7
   by_cases c11:t311=2
   case neg=>
    rw [if_neg c11] at H
    obtain ⟨c11b0,c11b1⟩:=zX c11
    obtain ⟨⟨t321,t322⟩,A17,H⟩:=zB H
    (try dsimp only at H)
    simp only [Option.some.injEq,Prod.mk.injEq] at H
    obtain ⟨rfl,rfl⟩:=H
    go_enter func123,ntmps123
    go_wp2_with (first|(refine zg (some 4) func33 #[.pointer (some ⟨g,0,none⟩),.int .i64 6] ?_;(with_reducible refine (Y0.calls g s0_0 s0_1 6 t311 t312 w0 _ ?side1 ?side2 A2.out).mono ?_);(case side1=>exact zi HI0);(case side2=>exact bw);rintro e w18 ⟨rfl,hi,hb,hk⟩;refine ⟨_,rfl,?_⟩;replace HK:=sT hk;replace HB:=aZ (hb);replace HI0:=aZ (hi);clear hb hk hi)|(refine zg (some 25) func37 #[.pointer (some ⟨g,0,none⟩),.int .i64 (-9),.int .i64 9] ?_;(with_reducible refine (Y8.calls g s0_0 t312 (-9) 9 t321 t322 w0 _ ?side1 ?side2 A17.out).mono ?_);(case side1=>exact zi HI0);(case side2=>exact bw);rintro e w19 ⟨rfl,hi,hb,hk⟩;refine ⟨_,rfl,?_⟩;replace HK:=sT hk;replace HB:=aZ (hb);replace HI0:=aZ (hi);clear hb hk hi))
    go_ret
    exact ⟨ze,zi HI0,bw,kk⟩
   rw [if_pos c11] at H
   obtain ⟨c11b0,c11b1⟩:=zY c11
   clear c11
   obtain ⟨⟨t317,t318⟩,A12,H⟩:=zB H
   (try dsimp only at H)
   obtain ⟨⟨t319,t320⟩,A13,H⟩:=zB H
   (try dsimp only at H)
   simp only [Option.some.injEq,Prod.mk.injEq] at H
   obtain ⟨rfl,rfl⟩:=H
   go_enter func123,ntmps123
   go_wp2_with (first|(refine zg (some 4) func33 #[.pointer (some ⟨g,0,none⟩),.int .i64 6] ?_;(with_reducible refine (Y0.calls g s0_0 s0_1 6 t311 t312 w0 _ ?side1 ?side2 A2.out).mono ?_);(case side1=>exact zi HI0);(case side2=>exact bw);rintro e w14 ⟨rfl,hi,hb,hk⟩;refine ⟨_,rfl,?_⟩;replace HK:=sT hk;replace HB:=aZ (hb);replace HI0:=aZ (hi);clear hb hk hi)|(refine zg (some 18) func33 #[.pointer (some ⟨g,0,none⟩),.int .i64 1073741824] ?_;(with_reducible refine (Y0.calls g s0_0 t312 1073741824 t317 t318 w0 _ ?side1 ?side2 A12.out).mono ?_);(case side1=>exact zi HI0);(case side2=>exact bw);rintro e w15 ⟨rfl,hi,hb,hk⟩;refine ⟨_,rfl,?_⟩;replace HK:=sT hk;replace HB:=aZ (hb);replace HI0:=aZ (hi);clear hb hk hi)|(refine zg (some 21) func33 #[.pointer (some ⟨g,0,none⟩),.int .i64 4] ?_;(with_reducible refine (Y0.calls g s0_0 t318 4 t319 t320 w0 _ ?side1 ?side2 A13.out).mono ?_);(case side1=>exact zi HI0);(case side2=>exact bw);rintro e w16 ⟨rfl,hi,hb,hk⟩;refine ⟨_,rfl,?_⟩;replace HK:=sT hk;replace HB:=aZ (hb);replace HI0:=aZ (hi);clear hb hk hi))
   go_ret
   exact ⟨ze,zi HI0,bw,kk⟩
  rw [if_pos c7] at H
  obtain ⟨c7b0,c7b1⟩:=zY c7
  clear c7
  obtain ⟨⟨t315,t316⟩,A8,H⟩:=zB H
  (try dsimp only at H)
  simp only [Option.some.injEq,Prod.mk.injEq] at H
  obtain ⟨rfl,rfl⟩:=H
  go_enter func123,ntmps123
  go_wp2_with (first|(refine zg (some 4) func33 #[.pointer (some ⟨g,0,none⟩),.int .i64 6] ?_;(with_reducible refine (Y0.calls g s0_0 s0_1 6 t311 t312 w0 _ ?side1 ?side2 A2.out).mono ?_);(case side1=>exact zi HI0);(case side2=>exact bw);rintro e w9 ⟨rfl,hi,hb,hk⟩;refine ⟨_,rfl,?_⟩;replace HK:=sT hk;replace HB:=aZ (hb);replace HI0:=aZ (hi);clear hb hk hi)|(refine zg (some 13) func33 #[.pointer (some ⟨g,0,none⟩),.int .i64 3] ?_;(with_reducible refine (Y0.calls g s0_0 t312 3 t315 t316 w0 _ ?side1 ?side2 A8.out).mono ?_);(case side1=>exact zi HI0);(case side2=>exact bw);rintro e w10 ⟨rfl,hi,hb,hk⟩;refine ⟨_,rfl,?_⟩;replace HK:=sT hk;replace HB:=aZ (hb);replace HI0:=aZ (hi);clear hb hk hi))
  go_ret
  exact ⟨ze,zi HI0,bw,kk⟩
 rw [if_pos c3] at H
 obtain ⟨c3b0,c3b1⟩:=zY c3
 clear c3
 obtain ⟨⟨t313,t314⟩,A4,H⟩:=zB H
 (try dsimp only at H)
 simp only [Option.some.injEq,Prod.mk.injEq] at H
 obtain ⟨rfl,rfl⟩:=H
 go_enter func123,ntmps123
 go_wp2_with (first|(refine zg (some 4) func33 #[.pointer (some ⟨g,0,none⟩),.int .i64 6] ?_;(with_reducible refine (Y0.calls g s0_0 s0_1 6 t311 t312 w0 _ ?side1 ?side2 A2.out).mono ?_);(case side1=>exact zi HI0);(case side2=>exact bw);rintro e w5 ⟨rfl,hi,hb,hk⟩;refine ⟨_,rfl,?_⟩;replace HK:=sT hk;replace HB:=aZ (hb);replace HI0:=aZ (hi);clear hb hk hi)|(refine zg (some 8) func33 #[.pointer (some ⟨g,0,none⟩),.int .i64 3] ?_;(with_reducible refine (Y0.calls g s0_0 t312 3 t313 t314 w0 _ ?side1 ?side2 A4.out).mono ?_);(case side1=>exact zi HI0);(case side2=>exact bw);rintro e w6 ⟨rfl,hi,hb,hk⟩;refine ⟨_,rfl,?_⟩;replace HK:=sT hk;replace HB:=aZ (hb);replace HI0:=aZ (hi);clear hb hk hi))
 go_ret
 exact ⟨ze,zi HI0,bw,kk⟩
def Yg.f (s0_0:List Int) (s0_1:Int) (a1:Int):Option (Bool×Int):=(Y0.f s0_0 s0_1 a1).bind fun bt323=>(some ((bt323.1==0),bt323.2))
theorem Yg.calls (g:Nat) (s0_0:List Int) (s0_1:Int) (a1:Int) (r1:Bool) (r2:Int) (w0 w:World) (hI:IsS44 w0 w g s0_0 s0_1) (hB:Below w0.heap.size w0 w) (h:Yg.f s0_0 s0_1 a1=some (r1,r2)) :
  Calls Tryz.prog 78 #[.pointer (some ⟨g,0,none⟩),.int .i64 a1] w fun e w'=>e = .returned (.bool r1)∧IsS44 w0 w' g s0_0 r2∧Below w0.heap.size w0 w'∧KeepBut w w' g none:=by
 have HI0:=aZ hI
 have HK:=aZ (KeepBut.refl w g none)
 have HL:=aZ hB.size
 clear hI
 have HW0:=aZ hB.size
 have HB:=aZ hB
 clear hB
 have H:=h
 unfold Yg.f at H
 clear h
 obtain ⟨⟨t323,t324⟩,A3,H⟩:=zB H
 (try dsimp only at H)
 simp only [Option.some.injEq,Prod.mk.injEq] at H
 obtain ⟨rfl,rfl⟩:=H
 go_enter func78,ntmps78
 go_wp2_with (first|(refine zg (some 7) func33 #[.pointer (some ⟨g,0,none⟩),.int .i64 a1] ?_;(with_reducible refine (Y0.calls g s0_0 s0_1 a1 t323 t324 w0 _ ?side1 ?side2 A3.out).mono ?_);(case side1=>exact zi HI0);(case side2=>exact bw);rintro e w4 ⟨rfl,hi,hb,hk⟩;refine ⟨_,rfl,?_⟩;replace HK:=sT hk;replace HB:=aZ (hb);replace HI0:=aZ (hi);clear hb hk hi))
 go_ret
 exact ⟨ze,zi HI0,bw,kk⟩
section
def Yz.f (a0:Int):Option ByteArray:=if -9223372036854775808≤a0∧a0≤9223372036854775807 then some ⟨(Lib.itoa a0).toArray⟩ else none
theorem Yz.calls (a0:Int) (r:ByteArray) (w:World) (hG:Tryz.Gl w) (h:Yz.f a0=some r) :
  Calls Tryz.prog 138 #[.int .i64 a0] w fun e w'=>e = .returned (.string r)∧Below w.heap.size w w':=by
 unfold Yz.f at h
 by_cases c:-9223372036854775808≤a0∧a0≤9223372036854775807
 case neg=>
  rw [if_neg c] at h;cases h
 rw [if_pos c] at h
 obtain rfl:=Option.some.inj h
 refine (Tryz.strconv_Itoa a0 c.1 c.2 w hG.1).mono ?_
 rintro e w' ⟨rfl,k,os,rfl⟩
 exact ⟨rfl,Tryz.grow_below w k os⟩
end
def Yd.l0:Nat→List Int→Int→Int→List Int→Int→Option (ByteArray×ByteArray×Int)
 | 0,_,_,_,_,_=>none
 | k+1,x3,x7,x8,x1000,x1001=>if x8<x7 then (if x3.length<140737488355328 then (Yd.l0 k (x3++[48]) x7 (wrap64 (x8+1)) x1000 x1001) else (none)) else (if x3.length<140737488355328 then ((some (x3++[49]:List Int)).bind fun y334=>((Yg.f x1000 x1001 2).bind fun bt338=>(if bt338.1=true then ((Y8.f x1000 bt338.2 0 20).bind fun bt340=>(if 0≤bt340.1 then ((Yz.f (shl .i64 1 bt340.1)).bind fun t342=>((Yg.f x1000 bt340.2 2).bind fun bt343=>(if bt343.1=true then (if 1+(strOfNums y334).size≤9223372036854775807 then (some ((⟨#[45]⟩:ByteArray)++(strOfNums y334),t342,bt343.2)) else (none)) else (some (strOfNums y334,t342,bt343.2))))) else (none))) else ((Yg.f x1000 bt338.2 2).bind fun bt345=>(if bt345.1=true then (if 1+(strOfNums y334).size≤9223372036854775807 then (some ((⟨#[45]⟩:ByteArray)++(strOfNums y334),(⟨#[49]⟩:ByteArray),bt345.2)) else (none)) else (some (strOfNums y334,(⟨#[49]⟩:ByteArray),bt345.2))))))) else (none))
def Yd.f (k:Nat) (s0_0:List Int) (s0_1:Int):Option (ByteArray×ByteArray×Int):=(Y8.f s0_0 s0_1 1 60).bind fun bt329=>(Yd.l0 k (([49]:List Int)) bt329.1 0 s0_0 bt329.2)
theorem Yd.calls (k:Nat) (g:Nat) (s0_0:List Int) (s0_1:Int) (r1:ByteArray) (r2:ByteArray) (r3:Int) (w0 w:World) (hI:IsS44 w0 w g s0_0 s0_1) (hB:Below w0.heap.size w0 w) (hG:Tryz.Gl w0) (h:Yd.f k s0_0 s0_1=some (r1,r2,r3)) :
  Calls Tryz.prog 124 #[.pointer (some ⟨g,0,none⟩)] w fun e w'=>e = .returned (.agg #[.string r1,.string r2])∧IsS44 w0 w' g s0_0 r3∧Below w0.heap.size w0 w'∧KeepBut w w' g none:=by
 have hu61:=underlying61
 have HG:=aZ hG
 clear hG
 have HI0:=aZ hI
 have HK:=aZ (KeepBut.refl w g none)
 have HL:=aZ hB.size
 clear hI
 have HW0:=aZ hB.size
 have HB:=aZ hB
 clear hB
 have H:=h
 unfold Yd.f at H
 clear h
 obtain ⟨y326,hy326⟩:∃ y_:List Int,y_=(([49]:List Int)):=⟨_,rfl⟩
 replace H:((Y8.f s0_0 s0_1 1 60).bind fun bt329=>(Yd.l0 k y326 bt329.1 0 s0_0 bt329.2))=some (r1,r2,r3):=zy hy326 H
 have Ny326:=aZ hy326
 clear hy326
 obtain ⟨⟨t329,t330⟩,A2,H⟩:=zB H
 (try dsimp only at H)
 have H':=aZ H
 clear H
 go_enter func124,ntmps124
 go_wp2_with (first|(refine box_ev 2 #[.string ⟨#[]⟩,.string ⟨#[]⟩] 61 ?_;intro gb325 hg w3 hbox hb;replace HB:=sB hb;have BK325:=aZ hbox;have GW325:=sE hg;have GE325:=zW HW0 hg;replace HK:=sU hb;have NB0_325:=aZ ((by rw [hg];exact Nat.ne_of_lt (IsS44.lt (show IsS44 w0 _ g s0_0 s0_1 from zi HI0)):g≠gb325));have NB325_0:=aZ ((by rw [hg];exact Nat.ne_of_gt (IsS44.lt (show IsS44 w0 _ g s0_0 s0_1 from zi HI0)):gb325≠g));replace HI0:=aZ (IsS44.below (zi HI0) hb);clear hb hbox hg)|((with_reducible refine gate_dst (N:=5) rfl ?_);refine Kd.R_lit (Kd.int .u8) _ 5 ?hg (N:=5) ?hd (xs:=([49]:List Int)) (inner:=[.int .u8 49]) (ok:=fun _=>True) (okp:=fun _=>True) ?hr ?hp (fun _ hk=>hk) trivial (Below.refl _ _) (Nat.le_refl _) (by simp) ?_;(case hd=>rfl);(case hg=>rfl);(case hr=>first|(go_simp;done)|(go_simp;rfl));(case hp=>exact (Reps.one (show Kd.M (Kd.int .u8) _ _ _ 49 [.int .u8 49] from rfl) (Reps.none _ _)));intro v327 w4 ho5 hb hg_ hnew_;clear hg_ hnew_;(first|rw [← Ny326.out] at ho5|(simp only [Int.reduceToNat] at ho5;rw [← Ny326.out] at ho5));have HO328:=aZ (Kd.R_lower ho5 ks);replace HI0:=aZ (IsS44.below (zi HI0) hb);replace BK325:=sK BK325 hb;replace HK:=sU hb;replace HB:=sB hb;clear hb ho5)|(refine zg (some 7) func37 #[.pointer (some ⟨g,0,none⟩),.int .i64 1,.int .i64 60] ?_;(with_reducible refine (Y8.calls g s0_0 s0_1 1 60 t329 t330 w0 _ ?side1 ?side2 A2.out).mono ?_);(case side1=>exact zi HI0);(case side2=>exact bw);rintro e w6 ⟨rfl,hi,hb,hk⟩;refine ⟨_,rfl,?_⟩;replace BK325:=aZ (KeepBut.blk hk (g':=gb325) (o:=.cells #[.string ⟨#[]⟩,.string ⟨#[]⟩] 61 (0,0)) (zb BK325) NB325_0.out (by simp));replace HO328:=aZ (Kd.R_mono (Kd.R_keep (IsS44.apart (show IsS44 w0 _ g s0_0 s0_1 from zi HI0) (zR HO328) (by decide)) hk (fun _ h=>h.2)) (fun _ h=>h.1));replace HK:=sT hk;replace HB:=aZ (hb);replace HI0:=aZ (hi);clear hb hk hi))
 go_loopg [3,8] k (fun kq v3 v8 w'=>∃ (x3_1:List Int) (x8_1:Int),v8 = .int .i64 x8_1∧Aside0 (Yd.l0 kq x3_1 t329 x8_1 s0_0 t330=some (r1,r2,r3))∧Aside0 (kq≤k)∧Aside0 (Kd.R (Kd.int .u8) 5 w' w.heap.size (fun _=>True) v3 x3_1)∧Aside0 (w'.heap[gb325]? = some (.cells #[.string ⟨#[]⟩,.string ⟨#[]⟩] 61 (0,0)))∧Aside0 (IsS44 w0 w' g s0_0 t330)∧Aside0 (KeepBut w w' g none)∧Aside0 (Below w0.heap.size w0 w'))
 case atStart=>exact ⟨(y326),(0),zs,H',⟨Nat.le_refl _⟩,⟨zR HO328⟩,⟨zb BK325⟩,⟨zi HI0⟩,⟨kk⟩,⟨bw⟩⟩
 case round =>
  clear H'
  try clear c1
  try clear c3
  obtain ⟨x3_1,x8_1,rfl,HA,HK1,HO_3,BK325,HI0,HK,HB⟩:=hrel
  cases gk with
  | zero=>exact absurd HA.out (by simp [Yd.l0])
  | succ k1 =>
   have H:=HA.out
   clear HA
   simp only [Yd.l0] at H
   by_cases c7:x8_1<t329
   case neg=>
    rw [if_neg c7] at H
    have c7b0:=decide_eq_false c7
    clear c7
    by_cases c10:x3_1.length<140737488355328
    case neg=>
     rw [if_neg c10] at H
     cases H
    rw [if_pos c10] at H
    have LMc10:=aZ c10
    clear c10
    obtain ⟨y334,hy334⟩:∃ y_:List Int,y_=(x3_1++[49]):=⟨_,rfl⟩
    replace H:((Yg.f s0_0 t330 2).bind fun bt338=>(if bt338.1=true then ((Y8.f s0_0 bt338.2 0 20).bind fun bt340=>(if 0≤bt340.1 then ((Yz.f (shl .i64 1 bt340.1)).bind fun t342=>((Yg.f s0_0 bt340.2 2).bind fun bt343=>(if bt343.1=true then (if 1+(strOfNums y334).size≤9223372036854775807 then (some ((⟨#[45]⟩:ByteArray)++(strOfNums y334),t342,bt343.2)) else (none)) else (some (strOfNums y334,t342,bt343.2))))) else (none))) else ((Yg.f s0_0 bt338.2 2).bind fun bt345=>(if bt345.1=true then (if 1+(strOfNums y334).size≤9223372036854775807 then (some ((⟨#[45]⟩:ByteArray)++(strOfNums y334),(⟨#[49]⟩:ByteArray),bt345.2)) else (none)) else (some (strOfNums y334,(⟨#[49]⟩:ByteArray),bt345.2))))))=some (r1,r2,r3):=zy hy334 H
    have Ny334:=aZ hy334
    clear hy334
    obtain ⟨⟨t338,t339⟩,A11,H⟩:=zB H
    (try dsimp only at H)
    by_cases c12:t338=true
    case neg=>
     replace c12:=Bool.eq_false_iff.mpr c12
     subst c12
     have H1:((Yg.f s0_0 t339 2).bind fun bt345=>(if bt345.1=true then (if 1+(strOfNums y334).size≤9223372036854775807 then (some ((⟨#[45]⟩:ByteArray)++(strOfNums y334),(⟨#[49]⟩:ByteArray),bt345.2)) else (none)) else (some (strOfNums y334,(⟨#[49]⟩:ByteArray),bt345.2))))=some (r1,r2,r3):=by rw [if_neg (show ¬ (false=true) by decide)] at H;exact H
     clear H
     have H:=H1
     clear H1
     obtain ⟨⟨t345,t346⟩,A48,H⟩:=zB H
     (try dsimp only at H)
     by_cases c49:t345=true
     case neg=>
      replace c49:=Bool.eq_false_iff.mpr c49
      subst c49
      have H1:(some (strOfNums y334,(⟨#[49]⟩:ByteArray),t346))=some (r1,r2,r3):=by rw [if_neg (show ¬ (false=true) by decide)] at H;exact H
      clear H
      have H:=H1
      clear H1
      simp only [Option.some.injEq,Prod.mk.injEq] at H
      obtain ⟨rfl,rfl,rfl⟩:=H
      go_wp2_with (first|((with_reducible refine gate_builtin (b:=.append) (xs:=#[.tmp 14,.tmp 15]) rfl ?_);at_builtin;refine Kd.R_append (Kd.int .u8) w.heap.size rfl (.tmp 14) (.tmp 15) 45 5 (.int .u8 0) 1 rfl underlying45 info5 rfl (by decide) (by omega) u3 x3_1 49 [.int .u8 49] (fun _=>True) (fun _=>False) rfl rfl ?aP (fun _ hk=>hk.elim) ?aF ?aO (Below.refl _ _) ?aS ?aL ?_;(case aP=>exact rfl);(case aF=>exact (fun _ _=>trivial));(case aO=>exact (zR HO_3));(case aS=>exact ks);(case aL=>have:=LMc10.out;omega);intro v335 w62 ho hb hg hat;rw [← Ny334.out] at ho;replace BK325:=aZ (blk_grown (g:=gb325) (o:=.cells #[.string ⟨#[]⟩,.string ⟨#[]⟩] 61 (0,0)) (zb BK325) hg (Kd.R_ne HO_3.out BK325.out (by decide)));replace HI0:=aZ (IsS44.grown (zi HI0) hg (IsS44.own_ne HI0.out HO_3.out (by decide)));replace HB:=aZ (below_weaken bw HL.out hb);replace HK:=aZ (KeepBut.trans kk (KeepBut.of_grown hg g) (Kd.R_base2 HO_3.out));have HO336:=aZ (ho);clear HO_3;clear ho hb hg hat;have hcv63:=own_string (P:=Tryz.prog) underlying45 underlying5 underlying9 (Kd.own_of_R HO336.out))|(refine box_ev 4 #[.string ⟨#[]⟩,.string ⟨#[]⟩] 61 ?_;intro gb337 hg w64 hbox hb;replace HO336:=yR HO336 hb;replace HB:=sB hb;have BK337:=aZ hbox;have GW337:=sE hg;have GE337:=zW HW0 hg;replace HK:=sU hb;have NB325_337:=sl hg BK325;have NB337_325:=sg hg BK325;replace BK325:=sK BK325 hb;have NB0_337:=aZ ((by rw [hg];exact Nat.ne_of_lt (IsS44.lt (show IsS44 w0 _ g s0_0 t330 from zi HI0)):g≠gb337));have NB337_0:=aZ ((by rw [hg];exact Nat.ne_of_gt (IsS44.lt (show IsS44 w0 _ g s0_0 t330 from zi HI0)):gb337≠g));replace HI0:=aZ (IsS44.below (zi HI0) hb);clear hb hbox hg;have hnb65:=NB337_325.out;have hnc65:=NB325_337.out;have hnb66:=NB337_0.out;have hnc66:=NB0_337.out;obtain ⟨hcz67_0,hfz67_0⟩:=zc BK337 0 (.string ⟨#[]⟩) rfl;obtain ⟨hcz67_1,hfz67_1⟩:=zc BK337 1 (.string ⟨#[]⟩) rfl)|(refine zg (some 21) func78 #[.pointer (some ⟨g,0,none⟩),.int .i64 2] ?_;(with_reducible refine (Yg.calls g s0_0 t330 2 false t339 w0 _ ?side1 ?side2 A11.out).mono ?_);(case side1=>exact zi HI0);(case side2=>exact bw);rintro e w68 ⟨rfl,hi,hb,hk⟩;refine ⟨_,rfl,?_⟩;replace BK325:=aZ (KeepBut.blk hk (g':=gb325) (o:=.cells #[.string ⟨#[]⟩,.string ⟨#[]⟩] 61 (0,0)) (zq BK325) NB325_0.out (by simp));replace HO336:=aZ (Kd.R_mono (Kd.R_keep (IsS44.apart (show IsS44 w0 _ g s0_0 t330 from zi HI0) (by (with_reducible repeat (first|apply Kd.R_alloc|apply Kd.R_drewN|apply Kd.R_drew));exact (Kd.R_mono (Kd.R_far (p:=⟨gb337,1,none⟩) (Kd.R_far (p:=⟨gb337,0,none⟩) (Kd.R_types HO336.out BK337.out (by decide)) (fun _ hk=>hk.2) (.string (strOfNums y334))) (fun _ hk=>hk.2) (.string (⟨#[49]⟩:ByteArray))) (fun _ h_=>h_.1))) (by decide)) hk (fun _ h=>h.2)) (fun _ h=>h.1));replace BK337:=aZ (KeepBut.blk hk (g':=gb337) (o:=.cells #[.string (strOfNums y334),.string (⟨#[49]⟩:ByteArray)] 61 (0,0)) (zp BK337) NB337_0.out (by simp));replace HK:=sT hk;replace HB:=aZ (hb);replace HI0:=aZ (hi);clear hb hk hi)|(refine zg (some 28) func78 #[.pointer (some ⟨g,0,none⟩),.int .i64 2] ?_;(with_reducible refine (Yg.calls g s0_0 t339 2 false t346 w0 _ ?side1 ?side2 A48.out).mono ?_);(case side1=>exact zi HI0);(case side2=>exact bw);rintro e w69 ⟨rfl,hi,hb,hk⟩;refine ⟨_,rfl,?_⟩;replace BK325:=aZ (KeepBut.blk hk (g':=gb325) (o:=.cells #[.string ⟨#[]⟩,.string ⟨#[]⟩] 61 (0,0)) (zb BK325) NB325_0.out (by simp));replace HO336:=aZ (Kd.R_mono (Kd.R_keep (IsS44.apart (show IsS44 w0 _ g s0_0 t339 from zi HI0) (zR HO336) (by decide)) hk (fun _ h=>h.2)) (fun _ h=>h.1));replace BK337:=aZ (KeepBut.blk hk (g':=gb337) (o:=.cells #[.string (strOfNums y334),.string (⟨#[49]⟩:ByteArray)] 61 (0,0)) (zb BK337) NB337_0.out (by simp));replace HK:=sT hk;replace HB:=aZ (hb);replace HI0:=aZ (hi);clear hb hk hi;obtain ⟨hcz70_0,hfz70_0⟩:=zc BK337 0 (.string (strOfNums y334)) rfl;obtain ⟨hcz70_1,hfz70_1⟩:=zc BK337 1 (.string (⟨#[49]⟩:ByteArray)) rfl;have hnb71:=NB325_0.out;have hnc71:=NB0_325.out;obtain ⟨hcz72_0,hfz72_0⟩:=zc BK325 0 (.string ⟨#[]⟩) rfl;obtain ⟨hcz72_1,hfz72_1⟩:=zc BK325 1 (.string ⟨#[]⟩) rfl))
      refine bodyPost_ret (results_cell_row rfl _ _ gb325 61 #[.string (strOfNums y334),.string (⟨#[49]⟩:ByteArray)] (0,0) _ rfl (zp BK325) underlying61 rfl (by kernel_rfl)) rfl ?_
      exact ⟨ze,zi HI0,bw,kk⟩
     subst c49
     have H1:(if 1+(strOfNums y334).size≤9223372036854775807 then (some ((⟨#[45]⟩:ByteArray)++(strOfNums y334),(⟨#[49]⟩:ByteArray),t346)) else (none))=some (r1,r2,r3):=by rw [if_pos rfl] at H;exact H
     clear H
     have H:=H1
     clear H1
     by_cases c50:1+(strOfNums y334).size≤9223372036854775807
     case neg=>
      rw [if_neg c50] at H
      cases H
     rw [if_pos c50] at H
     have c50b0:=eq_true c50
     have c50b1:=decide_eq_true c50
     try have c50b2:=eq_false (Nat.not_lt.2 c50)
     simp only [Option.some.injEq,Prod.mk.injEq] at H
     obtain ⟨rfl,rfl,rfl⟩:=H
     go_wp2_with (first|((with_reducible refine gate_builtin (b:=.append) (xs:=#[.tmp 14,.tmp 15]) rfl ?_);at_builtin;refine Kd.R_append (Kd.int .u8) w.heap.size rfl (.tmp 14) (.tmp 15) 45 5 (.int .u8 0) 1 rfl underlying45 info5 rfl (by decide) (by omega) u3 x3_1 49 [.int .u8 49] (fun _=>True) (fun _=>False) rfl rfl ?aP (fun _ hk=>hk.elim) ?aF ?aO (Below.refl _ _) ?aS ?aL ?_;(case aP=>exact rfl);(case aF=>exact (fun _ _=>trivial));(case aO=>exact (zR HO_3));(case aS=>exact ks);(case aL=>have:=LMc10.out;omega);intro v335 w51 ho hb hg hat;rw [← Ny334.out] at ho;replace BK325:=aZ (blk_grown (g:=gb325) (o:=.cells #[.string ⟨#[]⟩,.string ⟨#[]⟩] 61 (0,0)) (zb BK325) hg (Kd.R_ne HO_3.out BK325.out (by decide)));replace HI0:=aZ (IsS44.grown (zi HI0) hg (IsS44.own_ne HI0.out HO_3.out (by decide)));replace HB:=aZ (below_weaken bw HL.out hb);replace HK:=aZ (KeepBut.trans kk (KeepBut.of_grown hg g) (Kd.R_base2 HO_3.out));have HO336:=aZ (ho);clear HO_3;clear ho hb hg hat;have hcv52:=own_string (P:=Tryz.prog) underlying45 underlying5 underlying9 (Kd.own_of_R HO336.out))|(refine box_ev 4 #[.string ⟨#[]⟩,.string ⟨#[]⟩] 61 ?_;intro gb337 hg w53 hbox hb;replace HO336:=yR HO336 hb;replace HB:=sB hb;have BK337:=aZ hbox;have GW337:=sE hg;have GE337:=zW HW0 hg;replace HK:=sU hb;have NB325_337:=sl hg BK325;have NB337_325:=sg hg BK325;replace BK325:=sK BK325 hb;have NB0_337:=aZ ((by rw [hg];exact Nat.ne_of_lt (IsS44.lt (show IsS44 w0 _ g s0_0 t330 from zi HI0)):g≠gb337));have NB337_0:=aZ ((by rw [hg];exact Nat.ne_of_gt (IsS44.lt (show IsS44 w0 _ g s0_0 t330 from zi HI0)):gb337≠g));replace HI0:=aZ (IsS44.below (zi HI0) hb);clear hb hbox hg;have hnb54:=NB337_325.out;have hnc54:=NB325_337.out;have hnb55:=NB337_0.out;have hnc55:=NB0_337.out;obtain ⟨hcz56_0,hfz56_0⟩:=zc BK337 0 (.string ⟨#[]⟩) rfl;obtain ⟨hcz56_1,hfz56_1⟩:=zc BK337 1 (.string ⟨#[]⟩) rfl)|(refine zg (some 21) func78 #[.pointer (some ⟨g,0,none⟩),.int .i64 2] ?_;(with_reducible refine (Yg.calls g s0_0 t330 2 false t339 w0 _ ?side1 ?side2 A11.out).mono ?_);(case side1=>exact zi HI0);(case side2=>exact bw);rintro e w57 ⟨rfl,hi,hb,hk⟩;refine ⟨_,rfl,?_⟩;replace BK325:=aZ (KeepBut.blk hk (g':=gb325) (o:=.cells #[.string ⟨#[]⟩,.string ⟨#[]⟩] 61 (0,0)) (zq BK325) NB325_0.out (by simp));replace HO336:=aZ (Kd.R_mono (Kd.R_keep (IsS44.apart (show IsS44 w0 _ g s0_0 t330 from zi HI0) (by (with_reducible repeat (first|apply Kd.R_alloc|apply Kd.R_drewN|apply Kd.R_drew));exact (Kd.R_mono (Kd.R_far (p:=⟨gb337,1,none⟩) (Kd.R_far (p:=⟨gb337,0,none⟩) (Kd.R_types HO336.out BK337.out (by decide)) (fun _ hk=>hk.2) (.string (strOfNums y334))) (fun _ hk=>hk.2) (.string (⟨#[49]⟩:ByteArray))) (fun _ h_=>h_.1))) (by decide)) hk (fun _ h=>h.2)) (fun _ h=>h.1));replace BK337:=aZ (KeepBut.blk hk (g':=gb337) (o:=.cells #[.string (strOfNums y334),.string (⟨#[49]⟩:ByteArray)] 61 (0,0)) (zp BK337) NB337_0.out (by simp));replace HK:=sT hk;replace HB:=aZ (hb);replace HI0:=aZ (hi);clear hb hk hi)|(refine zg (some 28) func78 #[.pointer (some ⟨g,0,none⟩),.int .i64 2] ?_;(with_reducible refine (Yg.calls g s0_0 t339 2 true t346 w0 _ ?side1 ?side2 A48.out).mono ?_);(case side1=>exact zi HI0);(case side2=>exact bw);rintro e w58 ⟨rfl,hi,hb,hk⟩;refine ⟨_,rfl,?_⟩;replace BK325:=aZ (KeepBut.blk hk (g':=gb325) (o:=.cells #[.string ⟨#[]⟩,.string ⟨#[]⟩] 61 (0,0)) (zb BK325) NB325_0.out (by simp));replace HO336:=aZ (Kd.R_mono (Kd.R_keep (IsS44.apart (show IsS44 w0 _ g s0_0 t339 from zi HI0) (zR HO336) (by decide)) hk (fun _ h=>h.2)) (fun _ h=>h.1));replace BK337:=aZ (KeepBut.blk hk (g':=gb337) (o:=.cells #[.string (strOfNums y334),.string (⟨#[49]⟩:ByteArray)] 61 (0,0)) (zb BK337) NB337_0.out (by simp));replace HK:=sT hk;replace HB:=aZ (hb);replace HI0:=aZ (hi);clear hb hk hi;obtain ⟨hcz59_0,hfz59_0⟩:=zc BK337 0 (.string (strOfNums y334)) rfl;obtain ⟨hcz59_1,hfz59_1⟩:=zc BK337 1 (.string (⟨#[49]⟩:ByteArray)) rfl;have hnb60:=NB325_0.out;have hnc60:=NB0_325.out;obtain ⟨hcz61_0,hfz61_0⟩:=zc BK325 0 (.string ⟨#[]⟩) rfl;obtain ⟨hcz61_1,hfz61_1⟩:=zc BK325 1 (.string ⟨#[]⟩) rfl))
     refine bodyPost_ret (results_cell_row rfl _ _ gb325 61 #[.string ((⟨#[45]⟩:ByteArray)++(strOfNums y334)),.string (⟨#[49]⟩:ByteArray)] (0,0) _ rfl (zq BK325) underlying61 rfl (by kernel_rfl)) rfl ?_
     exact ⟨ze,zi HI0,bw,kk⟩
    subst c12
    have H1:((Y8.f s0_0 t339 0 20).bind fun bt340=>(if 0≤bt340.1 then ((Yz.f (shl .i64 1 bt340.1)).bind fun t342=>((Yg.f s0_0 bt340.2 2).bind fun bt343=>(if bt343.1=true then (if 1+(strOfNums y334).size≤9223372036854775807 then (some ((⟨#[45]⟩:ByteArray)++(strOfNums y334),t342,bt343.2)) else (none)) else (some (strOfNums y334,t342,bt343.2))))) else (none)))=some (r1,r2,r3):=by rw [if_pos rfl] at H;exact H
    clear H
    have H:=H1
    clear H1
    obtain ⟨⟨t340,t341⟩,A13,H⟩:=zB H
    (try dsimp only at H)
    by_cases c14:0≤t340
    case neg=>
     rw [if_neg c14] at H
     cases H
    rw [if_pos c14] at H
    have c14b0:=eq_true c14
    have c14b1:=decide_eq_true c14
    clear c14
    obtain ⟨ji15,hji15⟩:∃ j_:Int,(shl .i64 1 t340)=j_:=⟨_,rfl⟩
    (first|rw [hji15] at H|simp only [hji15] at H)
    (try rw [hji15] at A11)
    (try rw [hji15] at A13)
    have hji15_:(IntKind.i64.wrap (1*2^min t340.toNat 64))=ji15:=hji15
    have hji15z:t340≤64→(IntKind.i64.wrap (1*2^t340.toNat))=ji15:=shl_small hji15
    have hji15u:(IntKind.i64.wrap (2^min t340.toNat 64))=ji15:=by have h_:=hji15_;rw [Int.one_mul] at h_;exact h_
    have hji15v:t340≤64→(IntKind.i64.wrap (2^t340.toNat))=ji15:=fun hle_=>by have h_:=hji15z hle_;rw [Int.one_mul] at h_;exact h_
    have hji15yu:(wrap64 (2^min t340.toNat 64))=ji15:=(i64_w _).symm.trans hji15u
    have hji15xu:t340≤64→(wrap64 (2^t340.toNat))=ji15:=fun h_=>(i64_w _).symm.trans (hji15v h_)
    have hji15y:(wrap64 (1*2^min t340.toNat 64))=ji15:=(i64_w _).symm.trans hji15_
    have hji15x:t340≤64→(wrap64 (1*2^t340.toNat))=ji15:=fun h_=>(i64_w _).symm.trans (hji15z h_)
    obtain ⟨t342,A16,H⟩:=zB H
    obtain ⟨⟨t343,t344⟩,A17,H⟩:=zB H
    (try dsimp only at H)
    by_cases c18:t343=true
    case neg=>
     replace c18:=Bool.eq_false_iff.mpr c18
     subst c18
     have H1:(some (strOfNums y334,t342,t344))=some (r1,r2,r3):=by rw [if_neg (show ¬ (false=true) by decide)] at H;exact H
     clear H
     have H:=H1
     clear H1
     simp only [Option.some.injEq,Prod.mk.injEq] at H
     obtain ⟨rfl,rfl,rfl⟩:=H
     go_wp2_with (first|((with_reducible refine gate_builtin (b:=.append) (xs:=#[.tmp 14,.tmp 15]) rfl ?_);at_builtin;refine Kd.R_append (Kd.int .u8) w.heap.size rfl (.tmp 14) (.tmp 15) 45 5 (.int .u8 0) 1 rfl underlying45 info5 rfl (by decide) (by omega) u3 x3_1 49 [.int .u8 49] (fun _=>True) (fun _=>False) rfl rfl ?aP (fun _ hk=>hk.elim) ?aF ?aO (Below.refl _ _) ?aS ?aL ?_;(case aP=>exact rfl);(case aF=>exact (fun _ _=>trivial));(case aO=>exact (zR HO_3));(case aS=>exact ks);(case aL=>have:=LMc10.out;omega);intro v335 w34 ho hb hg hat;rw [← Ny334.out] at ho;replace BK325:=aZ (blk_grown (g:=gb325) (o:=.cells #[.string ⟨#[]⟩,.string ⟨#[]⟩] 61 (0,0)) (zb BK325) hg (Kd.R_ne HO_3.out BK325.out (by decide)));replace HI0:=aZ (IsS44.grown (zi HI0) hg (IsS44.own_ne HI0.out HO_3.out (by decide)));replace HB:=aZ (below_weaken bw HL.out hb);replace HK:=aZ (KeepBut.trans kk (KeepBut.of_grown hg g) (Kd.R_base2 HO_3.out));have HO336:=aZ (ho);clear HO_3;clear ho hb hg hat;have hcv35:=own_string (P:=Tryz.prog) underlying45 underlying5 underlying9 (Kd.own_of_R HO336.out))|(refine box_ev 4 #[.string ⟨#[]⟩,.string ⟨#[]⟩] 61 ?_;intro gb337 hg w36 hbox hb;replace HO336:=yR HO336 hb;replace HB:=sB hb;have BK337:=aZ hbox;have GW337:=sE hg;have GE337:=zW HW0 hg;replace HK:=sU hb;have NB325_337:=sl hg BK325;have NB337_325:=sg hg BK325;replace BK325:=sK BK325 hb;have NB0_337:=aZ ((by rw [hg];exact Nat.ne_of_lt (IsS44.lt (show IsS44 w0 _ g s0_0 t330 from zi HI0)):g≠gb337));have NB337_0:=aZ ((by rw [hg];exact Nat.ne_of_gt (IsS44.lt (show IsS44 w0 _ g s0_0 t330 from zi HI0)):gb337≠g));replace HI0:=aZ (IsS44.below (zi HI0) hb);clear hb hbox hg;have hnb37:=NB337_325.out;have hnc37:=NB325_337.out;have hnb38:=NB337_0.out;have hnc38:=NB0_337.out;obtain ⟨hcz39_0,hfz39_0⟩:=zc BK337 0 (.string ⟨#[]⟩) rfl;obtain ⟨hcz39_1,hfz39_1⟩:=zc BK337 1 (.string ⟨#[]⟩) rfl)|(refine zg (some 21) func78 #[.pointer (some ⟨g,0,none⟩),.int .i64 2] ?_;(with_reducible refine (Yg.calls g s0_0 t330 2 true t339 w0 _ ?side1 ?side2 A11.out).mono ?_);(case side1=>exact zi HI0);(case side2=>exact bw);rintro e w40 ⟨rfl,hi,hb,hk⟩;refine ⟨_,rfl,?_⟩;replace BK325:=aZ (KeepBut.blk hk (g':=gb325) (o:=.cells #[.string ⟨#[]⟩,.string ⟨#[]⟩] 61 (0,0)) (zq BK325) NB325_0.out (by simp));replace HO336:=aZ (Kd.R_mono (Kd.R_keep (IsS44.apart (show IsS44 w0 _ g s0_0 t330 from zi HI0) (by (with_reducible repeat (first|apply Kd.R_alloc|apply Kd.R_drewN|apply Kd.R_drew));exact (Kd.R_mono (Kd.R_far (p:=⟨gb337,1,none⟩) (Kd.R_far (p:=⟨gb337,0,none⟩) (Kd.R_types HO336.out BK337.out (by decide)) (fun _ hk=>hk.2) (.string (strOfNums y334))) (fun _ hk=>hk.2) (.string (⟨#[49]⟩:ByteArray))) (fun _ h_=>h_.1))) (by decide)) hk (fun _ h=>h.2)) (fun _ h=>h.1));replace BK337:=aZ (KeepBut.blk hk (g':=gb337) (o:=.cells #[.string (strOfNums y334),.string (⟨#[49]⟩:ByteArray)] 61 (0,0)) (zp BK337) NB337_0.out (by simp));replace HK:=sT hk;replace HB:=aZ (hb);replace HI0:=aZ (hi);clear hb hk hi)|(refine zg (some 23) func37 #[.pointer (some ⟨g,0,none⟩),.int .i64 0,.int .i64 20] ?_;(with_reducible refine (Y8.calls g s0_0 t339 0 20 t340 t341 w0 _ ?side1 ?side2 A13.out).mono ?_);(case side1=>exact zi HI0);(case side2=>exact bw);rintro e w41 ⟨rfl,hi,hb,hk⟩;refine ⟨_,rfl,?_⟩;replace BK325:=aZ (KeepBut.blk hk (g':=gb325) (o:=.cells #[.string ⟨#[]⟩,.string ⟨#[]⟩] 61 (0,0)) (zb BK325) NB325_0.out (by simp));replace HO336:=aZ (Kd.R_mono (Kd.R_keep (IsS44.apart (show IsS44 w0 _ g s0_0 t339 from zi HI0) (zR HO336) (by decide)) hk (fun _ h=>h.2)) (fun _ h=>h.1));replace BK337:=aZ (KeepBut.blk hk (g':=gb337) (o:=.cells #[.string (strOfNums y334),.string (⟨#[49]⟩:ByteArray)] 61 (0,0)) (zb BK337) NB337_0.out (by simp));replace HK:=sT hk;replace HB:=aZ (hb);replace HI0:=aZ (hi);clear hb hk hi)|((with_reducible refine gate_callee (f:=138) rfl ?_);refine goesL_ (some 25) rfl rfl func138 (by kernel_rfl) rfl #[.int .i64 ji15] rfl (by (try simp only [List.map_toArray,List.map_cons,List.map_nil]);first|done|(simp only [hji15];rfl)|rfl|(simp only [List.length_drop,List.length_take];rfl)) ?_;(with_reducible refine (Yz.calls ji15 t342 _ ?side1 A16.out).mono ?_);(case side1=>exact Tryz.Gl.below HG.out bw);rintro e w42 ⟨rfl,hb⟩;refine ⟨_,rfl,?_⟩;replace HO336:=yR HO336 hb;replace BK325:=sK BK325 hb;replace HI0:=aZ (IsS44.below (zi HI0) hb);replace BK337:=sK BK337 hb;replace HK:=sU hb;replace HB:=sB hb;clear hb;obtain ⟨hcz43_0,hfz43_0⟩:=zc BK337 0 (.string (strOfNums y334)) rfl;obtain ⟨hcz43_1,hfz43_1⟩:=zc BK337 1 (.string (⟨#[49]⟩:ByteArray)) rfl)|(refine zg (some 28) func78 #[.pointer (some ⟨g,0,none⟩),.int .i64 2] ?_;(with_reducible refine (Yg.calls g s0_0 t341 2 false t344 w0 _ ?side1 ?side2 A17.out).mono ?_);(case side1=>exact zi HI0);(case side2=>exact bw);rintro e w44 ⟨rfl,hi,hb,hk⟩;refine ⟨_,rfl,?_⟩;replace BK325:=aZ (KeepBut.blk hk (g':=gb325) (o:=.cells #[.string ⟨#[]⟩,.string ⟨#[]⟩] 61 (0,0)) (zq BK325) NB325_0.out (by simp));replace HO336:=aZ (Kd.R_mono (Kd.R_keep (IsS44.apart (show IsS44 w0 _ g s0_0 t341 from zi HI0) (by (with_reducible repeat (first|apply Kd.R_alloc|apply Kd.R_drewN|apply Kd.R_drew));exact (Kd.R_mono (Kd.R_far (p:=⟨gb337,1,none⟩) (Kd.R_types HO336.out BK337.out (by decide)) (fun _ hk=>hk.2) (.string t342)) (fun _ h_=>h_.1))) (by decide)) hk (fun _ h=>h.2)) (fun _ h=>h.1));replace BK337:=aZ (KeepBut.blk hk (g':=gb337) (o:=.cells #[.string (strOfNums y334),.string t342] 61 (0,0)) (zp BK337) NB337_0.out (by simp));replace HK:=sT hk;replace HB:=aZ (hb);replace HI0:=aZ (hi);clear hb hk hi;obtain ⟨hcz45_0,hfz45_0⟩:=zc BK337 0 (.string (strOfNums y334)) rfl;obtain ⟨hcz45_1,hfz45_1⟩:=zc BK337 1 (.string t342) rfl;have hnb46:=NB325_0.out;have hnc46:=NB0_325.out;obtain ⟨hcz47_0,hfz47_0⟩:=zc BK325 0 (.string ⟨#[]⟩) rfl;obtain ⟨hcz47_1,hfz47_1⟩:=zc BK325 1 (.string ⟨#[]⟩) rfl))
     refine bodyPost_ret (results_cell_row rfl _ _ gb325 61 #[.string (strOfNums y334),.string t342] (0,0) _ rfl (zp BK325) underlying61 rfl (by kernel_rfl)) rfl ?_
     exact ⟨by first|rfl|(simp [errW_none,errW_some] <;> rfl)|(simp only [← hji15];first|rfl|(simp [errW_none,errW_some] <;> rfl))|(simp [*,errW_none,errW_some] <;> rfl),zi HI0,bw,kk⟩
    subst c18
    have H1:(if 1+(strOfNums y334).size≤9223372036854775807 then (some ((⟨#[45]⟩:ByteArray)++(strOfNums y334),t342,t344)) else (none))=some (r1,r2,r3):=by rw [if_pos rfl] at H;exact H
    clear H
    have H:=H1
    clear H1
    by_cases c19:1+(strOfNums y334).size≤9223372036854775807
    case neg=>
     rw [if_neg c19] at H
     cases H
    rw [if_pos c19] at H
    have c19b0:=eq_true c19
    have c19b1:=decide_eq_true c19
    try have c19b2:=eq_false (Nat.not_lt.2 c19)
    simp only [Option.some.injEq,Prod.mk.injEq] at H
    obtain ⟨rfl,rfl,rfl⟩:=H
    go_wp2_with (first|((with_reducible refine gate_builtin (b:=.append) (xs:=#[.tmp 14,.tmp 15]) rfl ?_);at_builtin;refine Kd.R_append (Kd.int .u8) w.heap.size rfl (.tmp 14) (.tmp 15) 45 5 (.int .u8 0) 1 rfl underlying45 info5 rfl (by decide) (by omega) u3 x3_1 49 [.int .u8 49] (fun _=>True) (fun _=>False) rfl rfl ?aP (fun _ hk=>hk.elim) ?aF ?aO (Below.refl _ _) ?aS ?aL ?_;(case aP=>exact rfl);(case aF=>exact (fun _ _=>trivial));(case aO=>exact (zR HO_3));(case aS=>exact ks);(case aL=>have:=LMc10.out;omega);intro v335 w20 ho hb hg hat;rw [← Ny334.out] at ho;replace BK325:=aZ (blk_grown (g:=gb325) (o:=.cells #[.string ⟨#[]⟩,.string ⟨#[]⟩] 61 (0,0)) (zb BK325) hg (Kd.R_ne HO_3.out BK325.out (by decide)));replace HI0:=aZ (IsS44.grown (zi HI0) hg (IsS44.own_ne HI0.out HO_3.out (by decide)));replace HB:=aZ (below_weaken bw HL.out hb);replace HK:=aZ (KeepBut.trans kk (KeepBut.of_grown hg g) (Kd.R_base2 HO_3.out));have HO336:=aZ (ho);clear HO_3;clear ho hb hg hat;have hcv21:=own_string (P:=Tryz.prog) underlying45 underlying5 underlying9 (Kd.own_of_R HO336.out))|(refine box_ev 4 #[.string ⟨#[]⟩,.string ⟨#[]⟩] 61 ?_;intro gb337 hg w22 hbox hb;replace HO336:=yR HO336 hb;replace HB:=sB hb;have BK337:=aZ hbox;have GW337:=sE hg;have GE337:=zW HW0 hg;replace HK:=sU hb;have NB325_337:=sl hg BK325;have NB337_325:=sg hg BK325;replace BK325:=sK BK325 hb;have NB0_337:=aZ ((by rw [hg];exact Nat.ne_of_lt (IsS44.lt (show IsS44 w0 _ g s0_0 t330 from zi HI0)):g≠gb337));have NB337_0:=aZ ((by rw [hg];exact Nat.ne_of_gt (IsS44.lt (show IsS44 w0 _ g s0_0 t330 from zi HI0)):gb337≠g));replace HI0:=aZ (IsS44.below (zi HI0) hb);clear hb hbox hg;have hnb23:=NB337_325.out;have hnc23:=NB325_337.out;have hnb24:=NB337_0.out;have hnc24:=NB0_337.out;obtain ⟨hcz25_0,hfz25_0⟩:=zc BK337 0 (.string ⟨#[]⟩) rfl;obtain ⟨hcz25_1,hfz25_1⟩:=zc BK337 1 (.string ⟨#[]⟩) rfl)|(refine zg (some 21) func78 #[.pointer (some ⟨g,0,none⟩),.int .i64 2] ?_;(with_reducible refine (Yg.calls g s0_0 t330 2 true t339 w0 _ ?side1 ?side2 A11.out).mono ?_);(case side1=>exact zi HI0);(case side2=>exact bw);rintro e w26 ⟨rfl,hi,hb,hk⟩;refine ⟨_,rfl,?_⟩;replace BK325:=aZ (KeepBut.blk hk (g':=gb325) (o:=.cells #[.string ⟨#[]⟩,.string ⟨#[]⟩] 61 (0,0)) (zq BK325) NB325_0.out (by simp));replace HO336:=aZ (Kd.R_mono (Kd.R_keep (IsS44.apart (show IsS44 w0 _ g s0_0 t330 from zi HI0) (by (with_reducible repeat (first|apply Kd.R_alloc|apply Kd.R_drewN|apply Kd.R_drew));exact (Kd.R_mono (Kd.R_far (p:=⟨gb337,1,none⟩) (Kd.R_far (p:=⟨gb337,0,none⟩) (Kd.R_types HO336.out BK337.out (by decide)) (fun _ hk=>hk.2) (.string (strOfNums y334))) (fun _ hk=>hk.2) (.string (⟨#[49]⟩:ByteArray))) (fun _ h_=>h_.1))) (by decide)) hk (fun _ h=>h.2)) (fun _ h=>h.1));replace BK337:=aZ (KeepBut.blk hk (g':=gb337) (o:=.cells #[.string (strOfNums y334),.string (⟨#[49]⟩:ByteArray)] 61 (0,0)) (zp BK337) NB337_0.out (by simp));replace HK:=sT hk;replace HB:=aZ (hb);replace HI0:=aZ (hi);clear hb hk hi)|(refine zg (some 23) func37 #[.pointer (some ⟨g,0,none⟩),.int .i64 0,.int .i64 20] ?_;(with_reducible refine (Y8.calls g s0_0 t339 0 20 t340 t341 w0 _ ?side1 ?side2 A13.out).mono ?_);(case side1=>exact zi HI0);(case side2=>exact bw);rintro e w27 ⟨rfl,hi,hb,hk⟩;refine ⟨_,rfl,?_⟩;replace BK325:=aZ (KeepBut.blk hk (g':=gb325) (o:=.cells #[.string ⟨#[]⟩,.string ⟨#[]⟩] 61 (0,0)) (zb BK325) NB325_0.out (by simp));replace HO336:=aZ (Kd.R_mono (Kd.R_keep (IsS44.apart (show IsS44 w0 _ g s0_0 t339 from zi HI0) (zR HO336) (by decide)) hk (fun _ h=>h.2)) (fun _ h=>h.1));replace BK337:=aZ (KeepBut.blk hk (g':=gb337) (o:=.cells #[.string (strOfNums y334),.string (⟨#[49]⟩:ByteArray)] 61 (0,0)) (zb BK337) NB337_0.out (by simp));replace HK:=sT hk;replace HB:=aZ (hb);replace HI0:=aZ (hi);clear hb hk hi)|((with_reducible refine gate_callee (f:=138) rfl ?_);refine goesL_ (some 25) rfl rfl func138 (by kernel_rfl) rfl #[.int .i64 ji15] rfl (by (try simp only [List.map_toArray,List.map_cons,List.map_nil]);first|done|(simp only [hji15];rfl)|rfl|(simp only [List.length_drop,List.length_take];rfl)) ?_;(with_reducible refine (Yz.calls ji15 t342 _ ?side1 A16.out).mono ?_);(case side1=>exact Tryz.Gl.below HG.out bw);rintro e w28 ⟨rfl,hb⟩;refine ⟨_,rfl,?_⟩;replace HO336:=yR HO336 hb;replace BK325:=sK BK325 hb;replace HI0:=aZ (IsS44.below (zi HI0) hb);replace BK337:=sK BK337 hb;replace HK:=sU hb;replace HB:=sB hb;clear hb;obtain ⟨hcz29_0,hfz29_0⟩:=zc BK337 0 (.string (strOfNums y334)) rfl;obtain ⟨hcz29_1,hfz29_1⟩:=zc BK337 1 (.string (⟨#[49]⟩:ByteArray)) rfl)|(refine zg (some 28) func78 #[.pointer (some ⟨g,0,none⟩),.int .i64 2] ?_;(with_reducible refine (Yg.calls g s0_0 t341 2 true t344 w0 _ ?side1 ?side2 A17.out).mono ?_);(case side1=>exact zi HI0);(case side2=>exact bw);rintro e w30 ⟨rfl,hi,hb,hk⟩;refine ⟨_,rfl,?_⟩;replace BK325:=aZ (KeepBut.blk hk (g':=gb325) (o:=.cells #[.string ⟨#[]⟩,.string ⟨#[]⟩] 61 (0,0)) (zq BK325) NB325_0.out (by simp));replace HO336:=aZ (Kd.R_mono (Kd.R_keep (IsS44.apart (show IsS44 w0 _ g s0_0 t341 from zi HI0) (by (with_reducible repeat (first|apply Kd.R_alloc|apply Kd.R_drewN|apply Kd.R_drew));exact (Kd.R_mono (Kd.R_far (p:=⟨gb337,1,none⟩) (Kd.R_types HO336.out BK337.out (by decide)) (fun _ hk=>hk.2) (.string t342)) (fun _ h_=>h_.1))) (by decide)) hk (fun _ h=>h.2)) (fun _ h=>h.1));replace BK337:=aZ (KeepBut.blk hk (g':=gb337) (o:=.cells #[.string (strOfNums y334),.string t342] 61 (0,0)) (zp BK337) NB337_0.out (by simp));replace HK:=sT hk;replace HB:=aZ (hb);replace HI0:=aZ (hi);clear hb hk hi;obtain ⟨hcz31_0,hfz31_0⟩:=zc BK337 0 (.string (strOfNums y334)) rfl;obtain ⟨hcz31_1,hfz31_1⟩:=zc BK337 1 (.string t342) rfl;have hnb32:=NB325_0.out;have hnc32:=NB0_325.out;obtain ⟨hcz33_0,hfz33_0⟩:=zc BK325 0 (.string ⟨#[]⟩) rfl;obtain ⟨hcz33_1,hfz33_1⟩:=zc BK325 1 (.string ⟨#[]⟩) rfl))
    refine bodyPost_ret (results_cell_row rfl _ _ gb325 61 #[.string ((⟨#[45]⟩:ByteArray)++(strOfNums y334)),.string t342] (0,0) _ rfl (zq BK325) underlying61 rfl (by kernel_rfl)) rfl ?_
    exact ⟨by first|rfl|(simp [errW_none,errW_some] <;> rfl)|(simp only [← hji15];first|rfl|(simp [errW_none,errW_some] <;> rfl))|(simp [*,errW_none,errW_some] <;> rfl),zi HI0,bw,kk⟩
   rw [if_pos c7] at H
   have c7b0:=decide_eq_true c7
   clear c7
   by_cases c8:x3_1.length<140737488355328
   case neg=>
    rw [if_neg c8] at H
    cases H
   rw [if_pos c8] at H
   have LMc8:=aZ c8
   clear c8
   obtain ⟨y331,hy331⟩:∃ y_:List Int,y_=(x3_1++[48]):=⟨_,rfl⟩
   replace H:(Yd.l0 k1 y331 t329 (wrap64 (x8_1+1)) s0_0 t330)=some (r1,r2,r3):=zy hy331 H
   have Ny331:=aZ hy331
   clear hy331
   have H':=aZ H
   clear H
   go_wp2_with (first|((with_reducible refine gate_builtin (b:=.append) (xs:=#[.tmp 10,.tmp 11]) rfl ?_);at_builtin;refine Kd.R_append (Kd.int .u8) w.heap.size rfl (.tmp 10) (.tmp 11) 45 5 (.int .u8 0) 1 rfl underlying45 info5 rfl (by decide) (by omega) u3 x3_1 48 [.int .u8 48] (fun _=>True) (fun _=>False) rfl rfl ?aP (fun _ hk=>hk.elim) ?aF ?aO (Below.refl _ _) ?aS ?aL ?_;(case aP=>exact rfl);(case aF=>exact (fun _ _=>trivial));(case aO=>exact (zR HO_3));(case aS=>exact ks);(case aL=>have:=LMc8.out;omega);intro v332 w9 ho hb hg hat;rw [← Ny331.out] at ho;replace BK325:=aZ (blk_grown (g:=gb325) (o:=.cells #[.string ⟨#[]⟩,.string ⟨#[]⟩] 61 (0,0)) (zb BK325) hg (Kd.R_ne HO_3.out BK325.out (by decide)));replace HI0:=aZ (IsS44.grown (zi HI0) hg (IsS44.own_ne HI0.out HO_3.out (by decide)));replace HB:=aZ (below_weaken bw HL.out hb);replace HK:=aZ (KeepBut.trans kk (KeepBut.of_grown hg g) (Kd.R_base2 HO_3.out));have HO333:=aZ (ho);clear HO_3;clear ho hb hg hat))
   go_roundg k1
   case measure=>have:=HK1.out;omega
   case rel=>exact ⟨(y331),(wrap64 (x8_1+1)),zs,H',⟨by have:=HK1.out;omega⟩,⟨zR HO333⟩,⟨zb BK325⟩,⟨zi HI0⟩,⟨kk⟩,⟨bw⟩⟩
def Y9.l0:Nat→Int→Int→Int→Int→Option (ByteArray×ByteArray)
 | 0,_,_,_,_=>none
 | k+1,x0,x1,x5,x6=>if x6=0 then (if x5=0 then (none) else ((Yz.f (wrap64 (Int.tdiv x0 x5))).bind fun t348=>((Yz.f (wrap64 (Int.tdiv x1 x5))).bind fun t349=>(some (t348,t349))))) else (Y9.l0 k x0 x1 x6 (Int.tmod x5 x6))
def Y9.f (k:Nat) (a0:Int) (a1:Int):Option (ByteArray×ByteArray):=Y9.l0 k a0 a1 (mx a0 (wrap64 (-a0))) a1
def Y9.T4:Bool×List (List Nat×List Nat):=(true,[([],[]),([],[]),([0,1],[0,1]),([2],[2]),([],[]),([],[]),([4,5],[4,5]),([6,3],[6]),([3,7],[3,7]),([8,7,0,1,2,3,4,5,6,7,8],[8])])
def Y9.B4:List Nat:=[0,0,3,7,0,0,48,127,255,511]
theorem Y9.tab4:rtab .any (opsOf Tryz.f125 4)=Y9.T4:=by kernel_rfl
theorem Y9.bits4:waitsOk Y9.T4.2 Y9.B4=true:=by kernel_rfl
theorem Y9.calls (k:Nat) (a0:Int) (a1:Int) (r1:ByteArray) (r2:ByteArray) (w:World) (hG:Tryz.Gl w) (h:Y9.f k a0 a1=some (r1,r2)) :
  Calls Tryz.prog 125 #[.int .i64 a0,.int .i64 a1] w fun e w'=>e = .returned (.agg #[.string r1,.string r2])∧Below w.heap.size w w':=by
 have hu61:=underlying61
 have HG:=aZ hG
 clear hG
 have HB:=aZ (Below.refl w.heap.size w)
 have H:=h
 unfold Y9.f at H
 clear h
 obtain ⟨ji3,hji3⟩:∃ j_:Int,(mx a0 (wrap64 (-a0)))=j_:=⟨_,rfl⟩
 (first|rw [hji3] at H|simp only [hji3] at H)
 have hji3_:(if a0<(wrap64 (-a0)) then (wrap64 (-a0)) else a0)=ji3:=hji3
 have H':=aZ H
 clear H
 go_enter func125,ntmps125
 go_wp2_with (first|(refine box_ev 4 #[.string ⟨#[]⟩,.string ⟨#[]⟩] 61 ?_;intro gb347 hg w4 hbox hb;have BK347:=aZ hbox;have GE347:=sG hg;replace HB:=sB hb;clear hb hbox hg))
 go_loopg [5,6] k (fun kq v5 v6 w'=>∃ (x5_1:Int) (x6_1:Int),v5 = .int .i64 x5_1∧v6 = .int .i64 x6_1∧Aside0 (Y9.l0 kq a0 a1 x5_1 x6_1=some (r1,r2))∧Aside0 (kq≤k)∧Aside0 (w'.heap[gb347]? = some (.cells #[.string ⟨#[]⟩,.string ⟨#[]⟩] 61 (0,0)))∧Aside0 (Below w.heap.size w w'))
 case atStart=>exact ⟨(ji3),(a1),(by first|rfl|(simp;done)|(simp only [← hji3] <;> (first|rfl|simp))|(simp [*];done)),zs,H',⟨Nat.le_refl _⟩,⟨zb BK347⟩,⟨bw⟩⟩
 case round =>
  clear H'
  try clear c1
  obtain ⟨x5_1,x6_1,rfl,rfl,HA,HK1,BK347,HB⟩:=hrel
  cases gk with
  | zero=>exact absurd HA.out (by simp [Y9.l0])
  | succ k1 =>
   have H:=HA.out
   clear HA
   simp only [Y9.l0] at H
   by_cases c5:x6_1=0
   case neg=>
    rw [if_neg c5] at H
    obtain ⟨c5b0,c5b1⟩:=zX c5
    have H':=aZ H
    clear H
    try go_wp2
    replace BK347:=aZ (blk_drew BK347.out)
    replace HB:=aZ (below_drew1 HB.out)
    refine start_ (n:=6) (S:=fun w'=>True) (ds:=[]) #[false,false,false,false,false,false] (by kernel_rfl) rfl rfl trivial (fun hHeld=>?_)
    generalize wr.drew=w14 at BK347 HB hHeld ⊢
    refine pure_ (i:=0) (N:=some 14) (v:=?_) (a':=?_) #[true,false,false,false,false,false] rfl rfl (by kernel_rfl) (fun _ _ _ h=>h) (Or.inl ⟨by rfl,?_⟩) ?_ ?_
    rotate_left
    ·intro w'
     go_simp
     with_reducible rfl
    rotate_left
    ·simp only [Act.put,List.setIfInBounds_toArray,List.set_cons_zero,List.set_cons_succ,i64_w,i32_w]
     rfl
    refine pure_ (i:=1) (N:=some 15) (v:=?_) (a':=?_) #[true,true,false,false,false,false] rfl rfl (by kernel_rfl) (fun _ _ _ h=>h) (Or.inl ⟨by rfl,?_⟩) ?_ ?_
    rotate_left
    ·intro w'
     go_simp
     with_reducible rfl
    rotate_left
    ·simp only [Act.put,List.setIfInBounds_toArray,List.set_cons_zero,List.set_cons_succ,i64_w,i32_w]
     rfl
    refine pure_ (i:=2) (N:=some 16) (v:=?_) (a':=?_) #[true,true,true,false,false,false] rfl rfl (by kernel_rfl) (fun _ _ _ h=>h) (Or.inl ⟨by rfl,?_⟩) ?_ ?_
    rotate_left
    ·intro w'
     go_simp
     with_reducible rfl
    rotate_left
    ·simp only [Act.put,List.setIfInBounds_toArray,List.set_cons_zero,List.set_cons_succ,i64_w,i32_w]
     rfl
    refine pure_ (i:=3) (N:=some 17) (v:=?_) (a':=?_) #[true,true,true,true,false,false] rfl rfl (by kernel_rfl) (fun _ _ _ h=>h) (Or.inl ⟨by rfl,?_⟩) ?_ ?_
    rotate_left
    ·intro w'
     go_simp
     with_reducible rfl
    rotate_left
    ·simp only [Act.put,List.setIfInBounds_toArray,List.set_cons_zero,List.set_cons_succ,i64_w,i32_w]
     rfl
    refine pure_ (i:=4) (N:=some 5) (v:=?_) (a':=?_) #[true,true,true,true,true,false] rfl rfl (by kernel_rfl) (fun _ _ _ h=>h) (Or.inl ⟨by rfl,?_⟩) ?_ ?_
    rotate_left
    ·intro w'
     go_simp
     with_reducible rfl
    rotate_left
    ·simp only [Act.put,List.setIfInBounds_toArray,List.set_cons_zero,List.set_cons_succ,i64_w,i32_w]
     rfl
    refine pure_ (i:=5) (N:=some 6) (v:=?_) (a':=?_) #[true,true,true,true,true,true] rfl rfl (by kernel_rfl) (fun _ _ _ h=>h) (Or.inl ⟨by rfl,?_⟩) ?_ ?_
    rotate_left
    ·intro w'
     go_simp
     with_reducible rfl
    rotate_left
    ·simp only [Act.put,List.setIfInBounds_toArray,List.set_cons_zero,List.set_cons_succ,i64_w,i32_w]
     rfl
    refine done_ (by kernel_rfl) ?_
    try go_wp2
    go_roundg k1
    case measure=>have:=HK1.out;omega
    case rel=>exact ⟨(x6_1),(Int.tmod x5_1 x6_1),zs,zs,H',⟨by have:=HK1.out;omega⟩,⟨zb BK347⟩,⟨bw⟩⟩
   rw [if_pos c5] at H
   obtain ⟨c5b0,c5b1⟩:=zY c5
   clear c5
   by_cases c6:x5_1=0
   case neg=>
    rw [if_neg c6] at H
    obtain ⟨c6b0,c6b1⟩:=zX c6
    obtain ⟨t348,A7,H⟩:=zB H
    obtain ⟨t349,A8,H⟩:=zB H
    simp only [Option.some.injEq,Prod.mk.injEq] at H
    obtain ⟨rfl,rfl⟩:=H
    try go_wp2
    replace BK347:=aZ (blk_drew BK347.out)
    replace HB:=aZ (below_drew1 HB.out)
    refine start_ (n:=10) (S:=fun w'=>True) (ds:=[]) #[false,false,false,false,false,false,false,false,false,false] (by kernel_rfl) rfl rfl trivial (fun hHeld=>?_);refine with_tabW Y9.tab4 Y9.bits4 (fun HT_ HW_=>?_)
    generalize wr.drew=w9 at BK347 HB hHeld ⊢
    refine pu 0 (some 18) HT_ ?_
    refine pu 1 (some 19) HT_ ?_
    refine pu 2 (some 20) HT_ ?_
    refine pu 4 (some 22) HT_ ?_
    refine pu 5 (some 23) HT_ ?_
    refine pu 6 (some 24) HT_ ?_
    refine one_ (i:=3) (N:=some 21) #[true,true,true,true,true,true,true,false,false,false] rfl rfl (one_of HT_.out (by kernel_rfl)) (by decide) (fun K hK=>?_)
    refine goes_ func138 (by kernel_rfl) rfl #[.int .i64 (wrap64 (Int.tdiv a0 x5_1))] (by rfl) rfl rfl zm ?_
    with_reducible refine (Yz.calls (wrap64 (Int.tdiv a0 x5_1)) t348 _ ?side1 A7.out).mono ?_
    (case side1=>exact Tryz.Gl.below HG.out bw)
    rintro e w10 ⟨rfl,hb⟩
    refine ⟨_,rfl,?_⟩
    replace BK347:=sK BK347 hb
    replace HB:=sB hb
    clear hb
    refine hK.out _ _ trivial (fun hHeld=>?_)
    clear hK K
    refine nm ?_
    refine one_ (i:=7) (N:=some 25) #[true,true,true,true,true,true,true,true,false,false] rfl rfl (one_of HT_.out (by kernel_rfl)) (by decide) (fun K hK=>?_)
    refine goes_ func138 (by kernel_rfl) rfl #[.int .i64 (wrap64 (Int.tdiv a1 x5_1))] (by rfl) rfl rfl zm ?_
    with_reducible refine (Yz.calls (wrap64 (Int.tdiv a1 x5_1)) t349 _ ?side1 A8.out).mono ?_
    (case side1=>exact Tryz.Gl.below HG.out bw)
    rintro e w11 ⟨rfl,hb⟩
    refine ⟨_,rfl,?_⟩
    replace BK347:=sK BK347 hb
    replace HB:=sB hb
    clear hb
    refine hK.out _ _ trivial (fun hHeld=>?_)
    clear hK K
    refine nm ?_
    refine pu 8 (some 26) HT_ ?_
    refine one_ (i:=9) (N:=none) #[true,true,true,true,true,true,true,true,true,true] rfl rfl (one_of HT_.out (by kernel_rfl)) (by decide) (fun K hK=>?_)
    have hs12:w11.cell? ⟨gb347,0,none⟩=some (.string (⟨#[]⟩:ByteArray)):=(blk_cell BK347.out 0).trans rfl
    have hfs12:=blk_frozen BK347.out 0
    have hs13:w11.cell? ⟨gb347,1,none⟩=some (.string (⟨#[]⟩:ByteArray)):=(blk_cell BK347.out 1).trans rfl
    have hfs13:=blk_frozen BK347.out 1
    refine skip_ (w1:=?_) (by rfl) rfl ?_ ?_
    rotate_left
    ·go_simp
     rfl
    refine hK.out _ _ trivial (fun hHeld=>?_)
    clear hK K
    refine done_ (done_of HT_.out (by kernel_rfl)) ?_
    try go_wp2
    refine bodyPost_ret (results_cell_row rfl _ _ gb347 61 #[.string t348,.string t349] (0,0) _ rfl (zp BK347) underlying61 rfl (by kernel_rfl)) rfl ?_
    exact ⟨by first|rfl|(simp [errW_none,errW_some] <;> rfl)|(simp only [← hji3];first|rfl|(simp [errW_none,errW_some] <;> rfl))|(simp [*,errW_none,errW_some] <;> rfl),bw⟩
   rw [if_pos c6] at H
   cases H
def YH.f (k:Nat) (s0_0:List Int) (s0_1:Int):Option (ByteArray×ByteArray×Int):=(Y8.f s0_0 s0_1 (-20) 20).bind fun bt351=>((Y0.f s0_0 bt351.2 6).bind fun bt353=>(if bt353.1=0 then ((Y8.f s0_0 bt353.2 1 9).bind fun bt355=>((Y9.f k bt351.1 bt355.1).bind fun bt357=>(some (bt357.1,bt357.2,bt355.2)))) else (if bt353.1=1 then ((YG.f s0_0 bt353.2 (([2,4,8,3,7,1000]:List Int))).bind fun bt362=>((Y9.f k bt351.1 bt362.1).bind fun bt364=>(some (bt364.1,bt364.2,bt362.2)))) else (if bt353.1=2 then ((YJ.f s0_0 bt353.2).bind fun bt366=>((Y8.f s0_0 bt366.2 1 99).bind fun bt368=>((Y9.f k bt366.1 bt368.1).bind fun bt370=>(some (bt370.1,bt370.2,bt368.2))))) else (if bt353.1=3 then ((Yd.f k s0_0 bt353.2).bind fun bt372=>(some (bt372.1,bt372.2.1,bt372.2.2))) else ((Y9.f k bt351.1 1).bind fun bt375=>(some (bt375.1,bt375.2,bt353.2))))))))
theorem YH.calls (k:Nat) (g:Nat) (s0_0:List Int) (s0_1:Int) (r1:ByteArray) (r2:ByteArray) (r3:Int) (w0 w:World) (hI:IsS44 w0 w g s0_0 s0_1) (hB:Below w0.heap.size w0 w) (hG:Tryz.Gl w0) (h:YH.f k s0_0 s0_1=some (r1,r2,r3)) :
  Calls Tryz.prog 72 #[.pointer (some ⟨g,0,none⟩)] w fun e w'=>e = .returned (.agg #[.string r1,.string r2])∧IsS44 w0 w' g s0_0 r3∧Below w0.heap.size w0 w'∧KeepBut w w' g none:=by
 have hu61:=underlying61
 have HG:=aZ hG
 clear hG
 have HI0:=aZ hI
 have HK:=aZ (KeepBut.refl w g none)
 have HL:=aZ hB.size
 clear hI
 have HW0:=aZ hB.size
 have HB:=aZ hB
 clear hB
 have H:=h
 unfold YH.f at H
 clear h
 obtain ⟨⟨t351,t352⟩,A2,H⟩:=zB H
 (try dsimp only at H)
 obtain ⟨⟨t353,t354⟩,A3,H⟩:=zB H
 (try dsimp only at H)
 by_cases c4:t353=0
 case neg=>
  rw [if_neg c4] at H
  obtain ⟨c4b0,c4b1⟩:=zX c4
  by_cases c14:t353=1
  case neg=>
   rw [if_neg c14] at H
   obtain ⟨c14b0,c14b1⟩:=zX c14
   by_cases c27:t353=2
   case neg=>
    rw [if_neg c27] at H
    obtain ⟨c27b0,c27b1⟩:=zX c27
    by_cases c39:t353=3
    case neg=>
     rw [if_neg c39] at H
     obtain ⟨c39b0,c39b1⟩:=zX c39
     obtain ⟨⟨t375,t376⟩,A47,H⟩:=zB H
     (try dsimp only at H)
     simp only [Option.some.injEq,Prod.mk.injEq] at H
     obtain ⟨rfl,rfl,rfl⟩:=H
     go_enter func72,ntmps72
     go_wp2_with (first|(refine box_ev 2 #[.string ⟨#[]⟩,.string ⟨#[]⟩] 61 ?_;intro gb350 hg w48 hbox hb;replace HB:=sB hb;have BK350:=aZ hbox;have GW350:=sE hg;have GE350:=zW HW0 hg;replace HK:=sU hb;have NB0_350:=aZ ((by rw [hg];exact Nat.ne_of_lt (IsS44.lt (show IsS44 w0 _ g s0_0 s0_1 from zi HI0)):g≠gb350));have NB350_0:=aZ ((by rw [hg];exact Nat.ne_of_gt (IsS44.lt (show IsS44 w0 _ g s0_0 s0_1 from zi HI0)):gb350≠g));replace HI0:=aZ (IsS44.below (zi HI0) hb);clear hb hbox hg)|(refine zg (some 6) func37 #[.pointer (some ⟨g,0,none⟩),.int .i64 (-20),.int .i64 20] ?_;(with_reducible refine (Y8.calls g s0_0 s0_1 (-20) 20 t351 t352 w0 _ ?side1 ?side2 A2.out).mono ?_);(case side1=>exact zi HI0);(case side2=>exact bw);rintro e w49 ⟨rfl,hi,hb,hk⟩;refine ⟨_,rfl,?_⟩;replace BK350:=aZ (KeepBut.blk hk (g':=gb350) (o:=.cells #[.string ⟨#[]⟩,.string ⟨#[]⟩] 61 (0,0)) (zb BK350) NB350_0.out (by simp));replace HK:=sT hk;replace HB:=aZ (hb);replace HI0:=aZ (hi);clear hb hk hi)|(refine zg (some 8) func33 #[.pointer (some ⟨g,0,none⟩),.int .i64 6] ?_;(with_reducible refine (Y0.calls g s0_0 t352 6 t353 t354 w0 _ ?side1 ?side2 A3.out).mono ?_);(case side1=>exact zi HI0);(case side2=>exact bw);rintro e w50 ⟨rfl,hi,hb,hk⟩;refine ⟨_,rfl,?_⟩;replace BK350:=aZ (KeepBut.blk hk (g':=gb350) (o:=.cells #[.string ⟨#[]⟩,.string ⟨#[]⟩] 61 (0,0)) (zb BK350) NB350_0.out (by simp));replace HK:=sT hk;replace HB:=aZ (hb);replace HI0:=aZ (hi);clear hb hk hi)|(refine zg (some 30) func125 #[.int .i64 t351,.int .i64 1] ?_;(with_reducible refine (Y9.calls k t351 1 t375 t376 _ ?side1 A47.out).mono ?_);(case side1=>exact Tryz.Gl.below HG.out bw);rintro e w51 ⟨rfl,hb⟩;refine ⟨_,rfl,?_⟩;replace HI0:=aZ (IsS44.below (zi HI0) hb);replace BK350:=sK BK350 hb;replace HK:=sU hb;replace HB:=sB hb;clear hb;have hnb52:=NB350_0.out;have hnc52:=NB0_350.out;obtain ⟨hcz53_0,hfz53_0⟩:=zc BK350 0 (.string ⟨#[]⟩) rfl;obtain ⟨hcz53_1,hfz53_1⟩:=zc BK350 1 (.string ⟨#[]⟩) rfl))
     refine bodyPost_ret (results_cell_row rfl _ _ gb350 61 #[.string t375,.string t376] (0,0) _ rfl (zp BK350) underlying61 rfl (by kernel_rfl)) rfl ?_
     exact ⟨ze,zi HI0,bw,kk⟩
    rw [if_pos c39] at H
    obtain ⟨c39b0,c39b1⟩:=zY c39
    clear c39
    obtain ⟨⟨t372,t373,t374⟩,A40,H⟩:=zB H
    (try dsimp only at H)
    simp only [Option.some.injEq,Prod.mk.injEq] at H
    obtain ⟨rfl,rfl,rfl⟩:=H
    go_enter func72,ntmps72
    go_wp2_with (first|(refine box_ev 2 #[.string ⟨#[]⟩,.string ⟨#[]⟩] 61 ?_;intro gb350 hg w41 hbox hb;replace HB:=sB hb;have BK350:=aZ hbox;have GW350:=sE hg;have GE350:=zW HW0 hg;replace HK:=sU hb;have NB0_350:=aZ ((by rw [hg];exact Nat.ne_of_lt (IsS44.lt (show IsS44 w0 _ g s0_0 s0_1 from zi HI0)):g≠gb350));have NB350_0:=aZ ((by rw [hg];exact Nat.ne_of_gt (IsS44.lt (show IsS44 w0 _ g s0_0 s0_1 from zi HI0)):gb350≠g));replace HI0:=aZ (IsS44.below (zi HI0) hb);clear hb hbox hg)|(refine zg (some 6) func37 #[.pointer (some ⟨g,0,none⟩),.int .i64 (-20),.int .i64 20] ?_;(with_reducible refine (Y8.calls g s0_0 s0_1 (-20) 20 t351 t352 w0 _ ?side1 ?side2 A2.out).mono ?_);(case side1=>exact zi HI0);(case side2=>exact bw);rintro e w42 ⟨rfl,hi,hb,hk⟩;refine ⟨_,rfl,?_⟩;replace BK350:=aZ (KeepBut.blk hk (g':=gb350) (o:=.cells #[.string ⟨#[]⟩,.string ⟨#[]⟩] 61 (0,0)) (zb BK350) NB350_0.out (by simp));replace HK:=sT hk;replace HB:=aZ (hb);replace HI0:=aZ (hi);clear hb hk hi)|(refine zg (some 8) func33 #[.pointer (some ⟨g,0,none⟩),.int .i64 6] ?_;(with_reducible refine (Y0.calls g s0_0 t352 6 t353 t354 w0 _ ?side1 ?side2 A3.out).mono ?_);(case side1=>exact zi HI0);(case side2=>exact bw);rintro e w43 ⟨rfl,hi,hb,hk⟩;refine ⟨_,rfl,?_⟩;replace BK350:=aZ (KeepBut.blk hk (g':=gb350) (o:=.cells #[.string ⟨#[]⟩,.string ⟨#[]⟩] 61 (0,0)) (zb BK350) NB350_0.out (by simp));replace HK:=sT hk;replace HB:=aZ (hb);replace HI0:=aZ (hi);clear hb hk hi)|(refine zg (some 27) func124 #[.pointer (some ⟨g,0,none⟩)] ?_;(with_reducible refine (Yd.calls k g s0_0 t354 t372 t373 t374 w0 _ ?side1 ?side2 ?side3 A40.out).mono ?_);(case side1=>exact zi HI0);(case side2=>exact bw);(case side3=>exact HG.out);rintro e w44 ⟨rfl,hi,hb,hk⟩;refine ⟨_,rfl,?_⟩;replace BK350:=aZ (KeepBut.blk hk (g':=gb350) (o:=.cells #[.string ⟨#[]⟩,.string ⟨#[]⟩] 61 (0,0)) (zb BK350) NB350_0.out (by simp));replace HK:=sT hk;replace HB:=aZ (hb);replace HI0:=aZ (hi);clear hb hk hi;have hnb45:=NB350_0.out;have hnc45:=NB0_350.out;obtain ⟨hcz46_0,hfz46_0⟩:=zc BK350 0 (.string ⟨#[]⟩) rfl;obtain ⟨hcz46_1,hfz46_1⟩:=zc BK350 1 (.string ⟨#[]⟩) rfl))
    refine bodyPost_ret (results_cell_row rfl _ _ gb350 61 #[.string t372,.string t373] (0,0) _ rfl (zp BK350) underlying61 rfl (by kernel_rfl)) rfl ?_
    exact ⟨ze,zi HI0,bw,kk⟩
   rw [if_pos c27] at H
   obtain ⟨c27b0,c27b1⟩:=zY c27
   clear c27
   obtain ⟨⟨t366,t367⟩,A28,H⟩:=zB H
   (try dsimp only at H)
   obtain ⟨⟨t368,t369⟩,A29,H⟩:=zB H
   (try dsimp only at H)
   obtain ⟨⟨t370,t371⟩,A30,H⟩:=zB H
   (try dsimp only at H)
   simp only [Option.some.injEq,Prod.mk.injEq] at H
   obtain ⟨rfl,rfl,rfl⟩:=H
   go_enter func72,ntmps72
   go_wp2_with (first|(refine box_ev 2 #[.string ⟨#[]⟩,.string ⟨#[]⟩] 61 ?_;intro gb350 hg w31 hbox hb;replace HB:=sB hb;have BK350:=aZ hbox;have GW350:=sE hg;have GE350:=zW HW0 hg;replace HK:=sU hb;have NB0_350:=aZ ((by rw [hg];exact Nat.ne_of_lt (IsS44.lt (show IsS44 w0 _ g s0_0 s0_1 from zi HI0)):g≠gb350));have NB350_0:=aZ ((by rw [hg];exact Nat.ne_of_gt (IsS44.lt (show IsS44 w0 _ g s0_0 s0_1 from zi HI0)):gb350≠g));replace HI0:=aZ (IsS44.below (zi HI0) hb);clear hb hbox hg)|(refine zg (some 6) func37 #[.pointer (some ⟨g,0,none⟩),.int .i64 (-20),.int .i64 20] ?_;(with_reducible refine (Y8.calls g s0_0 s0_1 (-20) 20 t351 t352 w0 _ ?side1 ?side2 A2.out).mono ?_);(case side1=>exact zi HI0);(case side2=>exact bw);rintro e w32 ⟨rfl,hi,hb,hk⟩;refine ⟨_,rfl,?_⟩;replace BK350:=aZ (KeepBut.blk hk (g':=gb350) (o:=.cells #[.string ⟨#[]⟩,.string ⟨#[]⟩] 61 (0,0)) (zb BK350) NB350_0.out (by simp));replace HK:=sT hk;replace HB:=aZ (hb);replace HI0:=aZ (hi);clear hb hk hi)|(refine zg (some 8) func33 #[.pointer (some ⟨g,0,none⟩),.int .i64 6] ?_;(with_reducible refine (Y0.calls g s0_0 t352 6 t353 t354 w0 _ ?side1 ?side2 A3.out).mono ?_);(case side1=>exact zi HI0);(case side2=>exact bw);rintro e w33 ⟨rfl,hi,hb,hk⟩;refine ⟨_,rfl,?_⟩;replace BK350:=aZ (KeepBut.blk hk (g':=gb350) (o:=.cells #[.string ⟨#[]⟩,.string ⟨#[]⟩] 61 (0,0)) (zb BK350) NB350_0.out (by simp));replace HK:=sT hk;replace HB:=aZ (hb);replace HI0:=aZ (hi);clear hb hk hi)|(refine zg (some 21) func123 #[.pointer (some ⟨g,0,none⟩)] ?_;(with_reducible refine (YJ.calls g s0_0 t354 t366 t367 w0 _ ?side1 ?side2 A28.out).mono ?_);(case side1=>exact zi HI0);(case side2=>exact bw);rintro e w34 ⟨rfl,hi,hb,hk⟩;refine ⟨_,rfl,?_⟩;replace BK350:=aZ (KeepBut.blk hk (g':=gb350) (o:=.cells #[.string ⟨#[]⟩,.string ⟨#[]⟩] 61 (0,0)) (zb BK350) NB350_0.out (by simp));replace HK:=sT hk;replace HB:=aZ (hb);replace HI0:=aZ (hi);clear hb hk hi)|(refine zg (some 23) func37 #[.pointer (some ⟨g,0,none⟩),.int .i64 1,.int .i64 99] ?_;(with_reducible refine (Y8.calls g s0_0 t367 1 99 t368 t369 w0 _ ?side1 ?side2 A29.out).mono ?_);(case side1=>exact zi HI0);(case side2=>exact bw);rintro e w35 ⟨rfl,hi,hb,hk⟩;refine ⟨_,rfl,?_⟩;replace BK350:=aZ (KeepBut.blk hk (g':=gb350) (o:=.cells #[.string ⟨#[]⟩,.string ⟨#[]⟩] 61 (0,0)) (zb BK350) NB350_0.out (by simp));replace HK:=sT hk;replace HB:=aZ (hb);replace HI0:=aZ (hi);clear hb hk hi)|(refine zg (some 30) func125 #[.int .i64 t366,.int .i64 t368] ?_;(with_reducible refine (Y9.calls k t366 t368 t370 t371 _ ?side1 A30.out).mono ?_);(case side1=>exact Tryz.Gl.below HG.out bw);rintro e w36 ⟨rfl,hb⟩;refine ⟨_,rfl,?_⟩;replace HI0:=aZ (IsS44.below (zi HI0) hb);replace BK350:=sK BK350 hb;replace HK:=sU hb;replace HB:=sB hb;clear hb;have hnb37:=NB350_0.out;have hnc37:=NB0_350.out;obtain ⟨hcz38_0,hfz38_0⟩:=zc BK350 0 (.string ⟨#[]⟩) rfl;obtain ⟨hcz38_1,hfz38_1⟩:=zc BK350 1 (.string ⟨#[]⟩) rfl))
   refine bodyPost_ret (results_cell_row rfl _ _ gb350 61 #[.string t370,.string t371] (0,0) _ rfl (zp BK350) underlying61 rfl (by kernel_rfl)) rfl ?_
   exact ⟨ze,zi HI0,bw,kk⟩
  rw [if_pos c14] at H
  obtain ⟨c14b0,c14b1⟩:=zY c14
  clear c14
  obtain ⟨y359,hy359⟩:∃ y_:List Int,y_=(([2,4,8,3,7,1000]:List Int)):=⟨_,rfl⟩
  replace H:((YG.f s0_0 t354 y359).bind fun bt362=>((Y9.f k t351 bt362.1).bind fun bt364=>(some (bt364.1,bt364.2,bt362.2))))=some (r1,r2,r3):=zy hy359 H
  have Ny359:=aZ hy359
  clear hy359
  obtain ⟨⟨t362,t363⟩,A15,H⟩:=zB H
  (try dsimp only at H)
  obtain ⟨⟨t364,t365⟩,A16,H⟩:=zB H
  (try dsimp only at H)
  simp only [Option.some.injEq,Prod.mk.injEq] at H
  obtain ⟨rfl,rfl,rfl⟩:=H
  go_enter func72,ntmps72
  go_wp2_with (first|(refine box_ev 2 #[.string ⟨#[]⟩,.string ⟨#[]⟩] 61 ?_;intro gb350 hg w17 hbox hb;replace HB:=sB hb;have BK350:=aZ hbox;have GW350:=sE hg;have GE350:=zW HW0 hg;replace HK:=sU hb;have NB0_350:=aZ ((by rw [hg];exact Nat.ne_of_lt (IsS44.lt (show IsS44 w0 _ g s0_0 s0_1 from zi HI0)):g≠gb350));have NB350_0:=aZ ((by rw [hg];exact Nat.ne_of_gt (IsS44.lt (show IsS44 w0 _ g s0_0 s0_1 from zi HI0)):gb350≠g));replace HI0:=aZ (IsS44.below (zi HI0) hb);clear hb hbox hg)|(refine zg (some 6) func37 #[.pointer (some ⟨g,0,none⟩),.int .i64 (-20),.int .i64 20] ?_;(with_reducible refine (Y8.calls g s0_0 s0_1 (-20) 20 t351 t352 w0 _ ?side1 ?side2 A2.out).mono ?_);(case side1=>exact zi HI0);(case side2=>exact bw);rintro e w18 ⟨rfl,hi,hb,hk⟩;refine ⟨_,rfl,?_⟩;replace BK350:=aZ (KeepBut.blk hk (g':=gb350) (o:=.cells #[.string ⟨#[]⟩,.string ⟨#[]⟩] 61 (0,0)) (zb BK350) NB350_0.out (by simp));replace HK:=sT hk;replace HB:=aZ (hb);replace HI0:=aZ (hi);clear hb hk hi)|(refine zg (some 8) func33 #[.pointer (some ⟨g,0,none⟩),.int .i64 6] ?_;(with_reducible refine (Y0.calls g s0_0 t352 6 t353 t354 w0 _ ?side1 ?side2 A3.out).mono ?_);(case side1=>exact zi HI0);(case side2=>exact bw);rintro e w19 ⟨rfl,hi,hb,hk⟩;refine ⟨_,rfl,?_⟩;replace BK350:=aZ (KeepBut.blk hk (g':=gb350) (o:=.cells #[.string ⟨#[]⟩,.string ⟨#[]⟩] 61 (0,0)) (zb BK350) NB350_0.out (by simp));replace HK:=sT hk;replace HB:=aZ (hb);replace HI0:=aZ (hi);clear hb hk hi)|((with_reducible refine gate_dst (N:=16) rfl ?_);refine Kd.R_lit (Kd.int .i64) _ 3 ?hg (N:=16) ?hd (xs:=([2,4,8,3,7,1000]:List Int)) (inner:=[.int .i64 2,.int .i64 4,.int .i64 8,.int .i64 3,.int .i64 7,.int .i64 1000]) (ok:=fun _=>True) (okp:=fun _=>True) ?hr ?hp (fun _ hk=>hk) trivial (Below.refl _ _) (Nat.le_refl _) (by simp) ?_;(case hd=>rfl);(case hg=>rfl);(case hr=>first|(go_simp;done)|(go_simp;rfl));(case hp=>exact (Reps.one (show Kd.M (Kd.int .i64) _ _ _ 2 [.int .i64 2] from rfl) (Reps.one (show Kd.M (Kd.int .i64) _ _ _ 4 [.int .i64 4] from rfl) (Reps.one (show Kd.M (Kd.int .i64) _ _ _ 8 [.int .i64 8] from rfl) (Reps.one (show Kd.M (Kd.int .i64) _ _ _ 3 [.int .i64 3] from rfl) (Reps.one (show Kd.M (Kd.int .i64) _ _ _ 7 [.int .i64 7] from rfl) (Reps.one (show Kd.M (Kd.int .i64) _ _ _ 1000 [.int .i64 1000] from rfl) (Reps.none _ _))))))));intro v360 w20 ho21 hb hg_ hnew_;clear hg_ hnew_;(first|rw [← Ny359.out] at ho21|(simp only [Int.reduceToNat] at ho21;rw [← Ny359.out] at ho21));have HO361:=aZ (Kd.R_lower ho21 ks);replace HI0:=aZ (IsS44.below (zi HI0) hb);replace BK350:=sK BK350 hb;replace HK:=sU hb;replace HB:=sB hb;clear hb ho21;obtain ⟨Ao22,co22,rfl⟩:=Kd.R_slice HO361.out)|(refine zg (some 17) func122 #[.pointer (some ⟨g,0,none⟩),.slice Ao22 y359.length co22] ?_;(with_reducible refine (YG.calls g s0_0 t354 _ _ y359 t362 t363 w0 _ ?side1 ?side2 ?side3 ?side4 ?side5 A15.out).mono ?_);(case side1=>exact zi HI0);(case side2=>exact bw);(case side3=>exact zC (Kd.R_reads' HO361.out).2.2);(case side4=>exact (Kd.R_reads' HO361.out).2.1);(case side5=>exact far_slice (IsS44.own_ne HI0.out HO361.out (by decide)));rintro e w23 ⟨rfl,hi,hb,hk⟩;refine ⟨_,rfl,?_⟩;replace BK350:=aZ (KeepBut.blk hk (g':=gb350) (o:=.cells #[.string ⟨#[]⟩,.string ⟨#[]⟩] 61 (0,0)) (zb BK350) NB350_0.out (by simp));replace HO361:=aZ (Kd.R_mono (Kd.R_keep (IsS44.apart (show IsS44 w0 _ g s0_0 t354 from zi HI0) (zR HO361) (by decide)) hk (fun _ h=>h.2)) (fun _ h=>h.1));replace HK:=sT hk;replace HB:=aZ (hb);replace HI0:=aZ (hi);clear hb hk hi)|(refine zg (some 30) func125 #[.int .i64 t351,.int .i64 t362] ?_;(with_reducible refine (Y9.calls k t351 t362 t364 t365 _ ?side1 A16.out).mono ?_);(case side1=>exact Tryz.Gl.below HG.out bw);rintro e w24 ⟨rfl,hb⟩;refine ⟨_,rfl,?_⟩;replace HO361:=yR HO361 hb;replace HI0:=aZ (IsS44.below (zi HI0) hb);replace BK350:=sK BK350 hb;replace HK:=sU hb;replace HB:=sB hb;clear hb;have hnb25:=NB350_0.out;have hnc25:=NB0_350.out;obtain ⟨hcz26_0,hfz26_0⟩:=zc BK350 0 (.string ⟨#[]⟩) rfl;obtain ⟨hcz26_1,hfz26_1⟩:=zc BK350 1 (.string ⟨#[]⟩) rfl))
  refine bodyPost_ret (results_cell_row rfl _ _ gb350 61 #[.string t364,.string t365] (0,0) _ rfl (zp BK350) underlying61 rfl (by kernel_rfl)) rfl ?_
  exact ⟨ze,zi HI0,bw,kk⟩
 rw [if_pos c4] at H
 obtain ⟨c4b0,c4b1⟩:=zY c4
 clear c4
 obtain ⟨⟨t355,t356⟩,A5,H⟩:=zB H
 (try dsimp only at H)
 obtain ⟨⟨t357,t358⟩,A6,H⟩:=zB H
 (try dsimp only at H)
 simp only [Option.some.injEq,Prod.mk.injEq] at H
 obtain ⟨rfl,rfl,rfl⟩:=H
 go_enter func72,ntmps72
 go_wp2_with (first|(refine box_ev 2 #[.string ⟨#[]⟩,.string ⟨#[]⟩] 61 ?_;intro gb350 hg w7 hbox hb;replace HB:=sB hb;have BK350:=aZ hbox;have GW350:=sE hg;have GE350:=zW HW0 hg;replace HK:=sU hb;have NB0_350:=aZ ((by rw [hg];exact Nat.ne_of_lt (IsS44.lt (show IsS44 w0 _ g s0_0 s0_1 from zi HI0)):g≠gb350));have NB350_0:=aZ ((by rw [hg];exact Nat.ne_of_gt (IsS44.lt (show IsS44 w0 _ g s0_0 s0_1 from zi HI0)):gb350≠g));replace HI0:=aZ (IsS44.below (zi HI0) hb);clear hb hbox hg)|(refine zg (some 6) func37 #[.pointer (some ⟨g,0,none⟩),.int .i64 (-20),.int .i64 20] ?_;(with_reducible refine (Y8.calls g s0_0 s0_1 (-20) 20 t351 t352 w0 _ ?side1 ?side2 A2.out).mono ?_);(case side1=>exact zi HI0);(case side2=>exact bw);rintro e w8 ⟨rfl,hi,hb,hk⟩;refine ⟨_,rfl,?_⟩;replace BK350:=aZ (KeepBut.blk hk (g':=gb350) (o:=.cells #[.string ⟨#[]⟩,.string ⟨#[]⟩] 61 (0,0)) (zb BK350) NB350_0.out (by simp));replace HK:=sT hk;replace HB:=aZ (hb);replace HI0:=aZ (hi);clear hb hk hi)|(refine zg (some 8) func33 #[.pointer (some ⟨g,0,none⟩),.int .i64 6] ?_;(with_reducible refine (Y0.calls g s0_0 t352 6 t353 t354 w0 _ ?side1 ?side2 A3.out).mono ?_);(case side1=>exact zi HI0);(case side2=>exact bw);rintro e w9 ⟨rfl,hi,hb,hk⟩;refine ⟨_,rfl,?_⟩;replace BK350:=aZ (KeepBut.blk hk (g':=gb350) (o:=.cells #[.string ⟨#[]⟩,.string ⟨#[]⟩] 61 (0,0)) (zb BK350) NB350_0.out (by simp));replace HK:=sT hk;replace HB:=aZ (hb);replace HI0:=aZ (hi);clear hb hk hi)|(refine zg (some 12) func37 #[.pointer (some ⟨g,0,none⟩),.int .i64 1,.int .i64 9] ?_;(with_reducible refine (Y8.calls g s0_0 t354 1 9 t355 t356 w0 _ ?side1 ?side2 A5.out).mono ?_);(case side1=>exact zi HI0);(case side2=>exact bw);rintro e w10 ⟨rfl,hi,hb,hk⟩;refine ⟨_,rfl,?_⟩;replace BK350:=aZ (KeepBut.blk hk (g':=gb350) (o:=.cells #[.string ⟨#[]⟩,.string ⟨#[]⟩] 61 (0,0)) (zb BK350) NB350_0.out (by simp));replace HK:=sT hk;replace HB:=aZ (hb);replace HI0:=aZ (hi);clear hb hk hi)|(refine zg (some 30) func125 #[.int .i64 t351,.int .i64 t355] ?_;(with_reducible refine (Y9.calls k t351 t355 t357 t358 _ ?side1 A6.out).mono ?_);(case side1=>exact Tryz.Gl.below HG.out bw);rintro e w11 ⟨rfl,hb⟩;refine ⟨_,rfl,?_⟩;replace HI0:=aZ (IsS44.below (zi HI0) hb);replace BK350:=sK BK350 hb;replace HK:=sU hb;replace HB:=sB hb;clear hb;have hnb12:=NB350_0.out;have hnc12:=NB0_350.out;obtain ⟨hcz13_0,hfz13_0⟩:=zc BK350 0 (.string ⟨#[]⟩) rfl;obtain ⟨hcz13_1,hfz13_1⟩:=zc BK350 1 (.string ⟨#[]⟩) rfl))
 refine bodyPost_ret (results_cell_row rfl _ _ gb350 61 #[.string t357,.string t358] (0,0) _ rfl (zp BK350) underlying61 rfl (by kernel_rfl)) rfl ?_
 exact ⟨ze,zi HI0,bw,kk⟩
def Yc.j0:Nat→ByteArray→ByteArray→Bool→List Int→Int→Option (ByteArray×Int)
 | 0,_,_,_,_,_=>none
 | k+1,x1,x2,x14,x1000,x1001=>if x14=true then (some (x2,x1001)) else ((Y0.f x1000 x1001 (x1.size:Int)).bind fun bt377=>((Y0.f x1000 bt377.2 (x2.size:Int)).bind fun bt379=>(if 0≤bt379.1 then (if bt379.1<(x2.size:Int) then ((Y0.f x1000 bt379.2 3).bind fun bt381=>(if bt381.1=0 then (if 0≤bt377.1 then (if bt377.1≤(x1.size:Int) then (if (x1.extract 0 (bt377.1:Int).toNat).size+(Go.Utf8.encode (wrap32 (bt x2 bt379.1))).size≤9223372036854775807 then (if 0≤(wrap64 (bt377.1+1)) then (if (wrap64 (bt377.1+1))≤(x1.size:Int) then (if ((x1.extract 0 (bt377.1:Int).toNat)++(Go.Utf8.encode (wrap32 (bt x2 bt379.1)))).size+(x1.extract ((wrap64 (bt377.1+1)):Int).toNat x1.size).size≤9223372036854775807 then (some (((x1.extract 0 (bt377.1:Int).toNat)++(Go.Utf8.encode (wrap32 (bt x2 bt379.1))))++(x1.extract ((wrap64 (bt377.1+1)):Int).toNat x1.size),bt381.2)) else (none)) else (none)) else (none)) else (none)) else (none)) else (none)) else (if bt381.1=1 then (if 0≤bt377.1 then (if bt377.1≤(x1.size:Int) then (if (x1.extract 0 (bt377.1:Int).toNat).size+(Go.Utf8.encode (wrap32 (bt x2 bt379.1))).size≤9223372036854775807 then (if ((x1.extract 0 (bt377.1:Int).toNat)++(Go.Utf8.encode (wrap32 (bt x2 bt379.1)))).size+(x1.extract (bt377.1:Int).toNat x1.size).size≤9223372036854775807 then (some (((x1.extract 0 (bt377.1:Int).toNat)++(Go.Utf8.encode (wrap32 (bt x2 bt379.1))))++(x1.extract (bt377.1:Int).toNat x1.size),bt381.2)) else (none)) else (none)) else (none)) else (none)) else (if 0≤bt377.1 then (if bt377.1≤(x1.size:Int) then (if 0≤(wrap64 (bt377.1+1)) then (if (wrap64 (bt377.1+1))≤(x1.size:Int) then (if (x1.extract 0 (bt377.1:Int).toNat).size+(x1.extract ((wrap64 (bt377.1+1)):Int).toNat x1.size).size≤9223372036854775807 then (some ((x1.extract 0 (bt377.1:Int).toNat)++(x1.extract ((wrap64 (bt377.1+1)):Int).toNat x1.size),bt381.2)) else (none)) else (none)) else (none)) else (none)) else (none))))) else (none)) else (none))))
def Yc.f (k:Nat) (s0_0:List Int) (s0_1:Int) (a1:ByteArray) (a2:ByteArray):Option (ByteArray×Int):=if a1.toList=([]:List UInt8) then (Yc.j0 k a1 a2 true s0_0 s0_1) else (Yc.j0 k a1 a2 (a2.toList==([]:List UInt8)) s0_0 s0_1)
theorem Yc.calls (k:Nat) (g:Nat) (s0_0:List Int) (s0_1:Int) (a1:ByteArray) (a2:ByteArray) (r1:ByteArray) (r2:Int) (w0 w:World) (hI:IsS44 w0 w g s0_0 s0_1) (hB:Below w0.heap.size w0 w) (h:Yc.f k s0_0 s0_1 a1 a2=some (r1,r2)) :
  Calls Tryz.prog 73 #[.pointer (some ⟨g,0,none⟩),.string a1,.string a2] w fun e w'=>e = .returned (.string r1)∧IsS44 w0 w' g s0_0 r2∧Below w0.heap.size w0 w'∧KeepBut w w' g none:=by
 have HI0:=aZ hI
 have HK:=aZ (KeepBut.refl w g none)
 have HL:=aZ hB.size
 clear hI
 have HW0:=aZ hB.size
 have HB:=aZ hB
 clear hB
 have H:=h
 unfold Yc.f at H
 clear h
 have HC4:=aZ H
 clear H
 go_enter func73,ntmps73
 go_upto_region 1 with (fail)
 repeat (go_quiet (fail);go_upto_region 1 with (fail))
 go_cut [14] (fun v14 wc=>∃ (kq:Nat) (x14_3:Bool),v14 = .bool x14_3∧Aside0 (Yc.j0 kq a1 a2 x14_3 s0_0 s0_1=some (r1,r2))∧Aside0 (kq≤k)∧Aside0 (IsS44 w0 wc g s0_0 s0_1)∧Aside0 (KeepBut w wc g none)∧Aside0 (Below w0.heap.size w0 wc))
 case first =>
  have H:=HC4.out
  clear HC4
  by_cases c5:a1.toList=([]:List UInt8)
  case neg=>
   rw [if_neg c5] at H
   obtain ⟨c5b0,c5b1⟩:=zX c5
   (first|rw [c5b0]|(simp only [i64_w,i32_w];rw [c5b0])|skip)
   have H':=aZ H
   clear H
   go_wp2
   repeat (go_quiet (fail);try go_wp2)
   go_meet
   case rel=>exact ⟨_,((a2.toList==([]:List UInt8))),zs,H',⟨by first|omega|exact Nat.le_refl _⟩,⟨zi HI0⟩,⟨kk⟩,⟨bw⟩⟩
  rw [if_pos c5] at H
  obtain ⟨c5b0,c5b1⟩:=zY c5
  clear c5
  (first|rw [c5b0]|(simp only [i64_w,i32_w];rw [c5b0])|skip)
  have H':=aZ H
  clear H
  go_wp2
  repeat (go_quiet (fail);try go_wp2)
  go_meet
  case rel=>exact ⟨_,(true),zs,H',⟨by first|omega|exact Nat.le_refl _⟩,⟨zi HI0⟩,⟨kk⟩,⟨bw⟩⟩
 case rest =>
  clear HC4
  try clear c5
  try clear c5b0
  try clear c5b1
  obtain ⟨kq,x14_3,rfl,HA,HJ3,HI0,HK,HB⟩:=hcut
  cases kq with
  | zero=>exact absurd HA.out (by simp [Yc.j0])
  | succ kj3 =>
   have H:=HA.out
   clear HA
   simp only [Yc.j0] at H
   by_cases c6:x14_3=true
   case neg=>
    replace c6:=Bool.eq_false_iff.mpr c6
    subst c6
    have H1:((Y0.f s0_0 s0_1 (a1.size:Int)).bind fun bt377=>((Y0.f s0_0 bt377.2 (a2.size:Int)).bind fun bt379=>(if 0≤bt379.1 then (if bt379.1<(a2.size:Int) then ((Y0.f s0_0 bt379.2 3).bind fun bt381=>(if bt381.1=0 then (if 0≤bt377.1 then (if bt377.1≤(a1.size:Int) then (if (a1.extract 0 (bt377.1:Int).toNat).size+(Go.Utf8.encode (wrap32 (bt a2 bt379.1))).size≤9223372036854775807 then (if 0≤(wrap64 (bt377.1+1)) then (if (wrap64 (bt377.1+1))≤(a1.size:Int) then (if ((a1.extract 0 (bt377.1:Int).toNat)++(Go.Utf8.encode (wrap32 (bt a2 bt379.1)))).size+(a1.extract ((wrap64 (bt377.1+1)):Int).toNat a1.size).size≤9223372036854775807 then (some (((a1.extract 0 (bt377.1:Int).toNat)++(Go.Utf8.encode (wrap32 (bt a2 bt379.1))))++(a1.extract ((wrap64 (bt377.1+1)):Int).toNat a1.size),bt381.2)) else (none)) else (none)) else (none)) else (none)) else (none)) else (none)) else (if bt381.1=1 then (if 0≤bt377.1 then (if bt377.1≤(a1.size:Int) then (if (a1.extract 0 (bt377.1:Int).toNat).size+(Go.Utf8.encode (wrap32 (bt a2 bt379.1))).size≤9223372036854775807 then (if ((a1.extract 0 (bt377.1:Int).toNat)++(Go.Utf8.encode (wrap32 (bt a2 bt379.1)))).size+(a1.extract (bt377.1:Int).toNat a1.size).size≤9223372036854775807 then (some (((a1.extract 0 (bt377.1:Int).toNat)++(Go.Utf8.encode (wrap32 (bt a2 bt379.1))))++(a1.extract (bt377.1:Int).toNat a1.size),bt381.2)) else (none)) else (none)) else (none)) else (none)) else (if 0≤bt377.1 then (if bt377.1≤(a1.size:Int) then (if 0≤(wrap64 (bt377.1+1)) then (if (wrap64 (bt377.1+1))≤(a1.size:Int) then (if (a1.extract 0 (bt377.1:Int).toNat).size+(a1.extract ((wrap64 (bt377.1+1)):Int).toNat a1.size).size≤9223372036854775807 then (some ((a1.extract 0 (bt377.1:Int).toNat)++(a1.extract ((wrap64 (bt377.1+1)):Int).toNat a1.size),bt381.2)) else (none)) else (none)) else (none)) else (none)) else (none))))) else (none)) else (none))))=some (r1,r2):=by rw [if_neg (show ¬ (false=true) by decide)] at H;exact H
    clear H
    have H:=H1
    clear H1
    obtain ⟨⟨t377,t378⟩,A7,H⟩:=zB H
    (try dsimp only at H)
    obtain ⟨⟨t379,t380⟩,A8,H⟩:=zB H
    (try dsimp only at H)
    by_cases c9:0≤t379
    case neg=>
     rw [if_neg c9] at H
     cases H
    rw [if_pos c9] at H
    have c9b0:=decide_eq_true c9
    clear c9
    by_cases c10:t379<(a2.size:Int)
    case neg=>
     rw [if_neg c10] at H
     cases H
    rw [if_pos c10] at H
    have c10b0:=decide_eq_true c10
    clear c10
    obtain ⟨⟨t381,t382⟩,A12,H⟩:=zB H
    (try dsimp only at H)
    by_cases c13:t381=0
    case neg=>
     rw [if_neg c13] at H
     obtain ⟨c13b0,c13b1⟩:=zX c13
     by_cases c24:t381=1
     case neg=>
      rw [if_neg c24] at H
      obtain ⟨c24b0,c24b1⟩:=zX c24
      by_cases c34:0≤t377
      case neg=>
       rw [if_neg c34] at H
       cases H
      rw [if_pos c34] at H
      have c34b0:=eq_true c34
      have c34b1:=decide_eq_true c34
      clear c34
      by_cases c35:t377≤(a1.size:Int)
      case neg=>
       rw [if_neg c35] at H
       cases H
      rw [if_pos c35] at H
      have c35b0:=eq_true c35
      have c35b1:=decide_eq_true c35
      clear c35
      obtain ⟨ji36,hji36⟩:∃ j_:Int,(wrap64 (t377+1))=j_:=⟨_,rfl⟩
      (first|rw [hji36] at H|simp only [hji36] at H)
      (try clear hji17w)
      (try clear hji17)
      (try rw [hji36] at A7)
      (try rw [hji36] at A8)
      (try rw [hji36] at A12)
      have hji36w:(IntKind.i64.wrap (t377+1))=ji36:=(i64_w _).trans hji36
      by_cases c37:0≤(ji36)
      case neg=>
       rw [if_neg c37] at H
       cases H
      rw [if_pos c37] at H
      have c37b0:=eq_true c37
      have c37b1:=decide_eq_true c37
      clear c37
      by_cases c38:(ji36)≤(a1.size:Int)
      case neg=>
       rw [if_neg c38] at H
       cases H
      rw [if_pos c38] at H
      have c38b0:=eq_true c38
      have c38b1:=decide_eq_true c38
      clear c38
      by_cases c39:(a1.extract 0 (t377:Int).toNat).size+(a1.extract ((ji36):Int).toNat a1.size).size≤9223372036854775807
      case neg=>
       rw [if_neg c39] at H
       cases H
      rw [if_pos c39] at H
      have c39b0:=eq_true c39
      have c39b1:=decide_eq_true c39
      try have c39b2:=eq_false (Nat.not_lt.2 c39)
      simp only [Option.some.injEq,Prod.mk.injEq] at H
      obtain ⟨rfl,rfl⟩:=H
      go_wp2_with (first|(go_at_call 33;(with_reducible refine (Y0.calls g s0_0 s0_1 (a1.size:Int) t377 t378 w0 _ ?side1 ?side2 A7.out).mono ?_);(case side1=>exact zi HI0);(case side2=>exact bw);rintro e w40 ⟨rfl,hi,hb,hk⟩;replace HK:=sT hk;replace HB:=aZ (hb);replace HI0:=aZ (hi);clear hb hk hi)|(go_at_call 33;(with_reducible refine (Y0.calls g s0_0 t378 (a2.size:Int) t379 t380 w0 _ ?side1 ?side2 A8.out).mono ?_);(case side1=>exact zi HI0);(case side2=>exact bw);rintro e w41 ⟨rfl,hi,hb,hk⟩;replace HK:=sT hk;replace HB:=aZ (hb);replace HI0:=aZ (hi);clear hb hk hi;have p11:0≤(t379:Int):=zd;have q11:t379<(a2.size:Int):=zd;have hx11:=bt_at a2 t379;replace p11:=eq_true p11;replace q11:=eq_true q11)|(go_at_call 33;(with_reducible refine (Y0.calls g s0_0 t380 3 t381 t382 w0 _ ?side1 ?side2 A12.out).mono ?_);(case side1=>exact zi HI0);(case side2=>exact bw);rintro e w42 ⟨rfl,hi,hb,hk⟩;replace HK:=sT hk;replace HB:=aZ (hb);replace HI0:=aZ (hi);clear hb hk hi))
      repeat (go_quiet (first|(go_at_call 33;(with_reducible refine (Y0.calls g s0_0 s0_1 (a1.size:Int) t377 t378 w0 _ ?side1 ?side2 A7.out).mono ?_);(case side1=>exact zi HI0);(case side2=>exact bw);rintro e w40 ⟨rfl,hi,hb,hk⟩;replace HK:=sT hk;replace HB:=aZ (hb);replace HI0:=aZ (hi);clear hb hk hi)|(go_at_call 33;(with_reducible refine (Y0.calls g s0_0 t378 (a2.size:Int) t379 t380 w0 _ ?side1 ?side2 A8.out).mono ?_);(case side1=>exact zi HI0);(case side2=>exact bw);rintro e w41 ⟨rfl,hi,hb,hk⟩;replace HK:=sT hk;replace HB:=aZ (hb);replace HI0:=aZ (hi);clear hb hk hi;have p11:0≤(t379:Int):=zd;have q11:t379<(a2.size:Int):=zd;have hx11:=bt_at a2 t379;replace p11:=eq_true p11;replace q11:=eq_true q11)|(go_at_call 33;(with_reducible refine (Y0.calls g s0_0 t380 3 t381 t382 w0 _ ?side1 ?side2 A12.out).mono ?_);(case side1=>exact zi HI0);(case side2=>exact bw);rintro e w42 ⟨rfl,hi,hb,hk⟩;replace HK:=sT hk;replace HB:=aZ (hb);replace HI0:=aZ (hi);clear hb hk hi));try go_wp2_with (first|(go_at_call 33;(with_reducible refine (Y0.calls g s0_0 s0_1 (a1.size:Int) t377 t378 w0 _ ?side1 ?side2 A7.out).mono ?_);(case side1=>exact zi HI0);(case side2=>exact bw);rintro e w40 ⟨rfl,hi,hb,hk⟩;replace HK:=sT hk;replace HB:=aZ (hb);replace HI0:=aZ (hi);clear hb hk hi)|(go_at_call 33;(with_reducible refine (Y0.calls g s0_0 t378 (a2.size:Int) t379 t380 w0 _ ?side1 ?side2 A8.out).mono ?_);(case side1=>exact zi HI0);(case side2=>exact bw);rintro e w41 ⟨rfl,hi,hb,hk⟩;replace HK:=sT hk;replace HB:=aZ (hb);replace HI0:=aZ (hi);clear hb hk hi;have p11:0≤(t379:Int):=zd;have q11:t379<(a2.size:Int):=zd;have hx11:=bt_at a2 t379;replace p11:=eq_true p11;replace q11:=eq_true q11)|(go_at_call 33;(with_reducible refine (Y0.calls g s0_0 t380 3 t381 t382 w0 _ ?side1 ?side2 A12.out).mono ?_);(case side1=>exact zi HI0);(case side2=>exact bw);rintro e w42 ⟨rfl,hi,hb,hk⟩;replace HK:=sT hk;replace HB:=aZ (hb);replace HI0:=aZ (hi);clear hb hk hi)))
      go_ret
      exact ⟨by first|rfl|(simp [errW_none,errW_some] <;> rfl)|(simp only [← hji36];first|rfl|(simp [errW_none,errW_some] <;> rfl))|(simp [*,errW_none,errW_some] <;> rfl),zi HI0,bw,kk⟩
     rw [if_pos c24] at H
     obtain ⟨c24b0,c24b1⟩:=zY c24
     clear c24
     by_cases c25:0≤t377
     case neg=>
      rw [if_neg c25] at H
      cases H
     rw [if_pos c25] at H
     have c25b0:=eq_true c25
     have c25b1:=decide_eq_true c25
     clear c25
     by_cases c26:t377≤(a1.size:Int)
     case neg=>
      rw [if_neg c26] at H
      cases H
     rw [if_pos c26] at H
     have c26b0:=eq_true c26
     have c26b1:=decide_eq_true c26
     clear c26
     by_cases c27:(a1.extract 0 (t377:Int).toNat).size+(Go.Utf8.encode (wrap32 (bt a2 t379))).size≤9223372036854775807
     case neg=>
      rw [if_neg c27] at H
      cases H
     rw [if_pos c27] at H
     have c27b0:=eq_true c27
     have c27b1:=decide_eq_true c27
     try have c27b2:=eq_false (Nat.not_lt.2 c27)
     have c28b0:=eq_true (zd:0≤t377)
     have c29b0:=eq_true (zd:t377≤(a1.size:Int))
     by_cases c30:((a1.extract 0 (t377:Int).toNat)++(Go.Utf8.encode (wrap32 (bt a2 t379)))).size+(a1.extract (t377:Int).toNat a1.size).size≤9223372036854775807
     case neg=>
      rw [if_neg c30] at H
      cases H
     rw [if_pos c30] at H
     have c30b0:=eq_true c30
     have c30b1:=decide_eq_true c30
     try have c30b2:=eq_false (Nat.not_lt.2 c30)
     simp only [Option.some.injEq,Prod.mk.injEq] at H
     obtain ⟨rfl,rfl⟩:=H
     go_wp2_with (first|(go_at_call 33;(with_reducible refine (Y0.calls g s0_0 s0_1 (a1.size:Int) t377 t378 w0 _ ?side1 ?side2 A7.out).mono ?_);(case side1=>exact zi HI0);(case side2=>exact bw);rintro e w31 ⟨rfl,hi,hb,hk⟩;replace HK:=sT hk;replace HB:=aZ (hb);replace HI0:=aZ (hi);clear hb hk hi)|(go_at_call 33;(with_reducible refine (Y0.calls g s0_0 t378 (a2.size:Int) t379 t380 w0 _ ?side1 ?side2 A8.out).mono ?_);(case side1=>exact zi HI0);(case side2=>exact bw);rintro e w32 ⟨rfl,hi,hb,hk⟩;replace HK:=sT hk;replace HB:=aZ (hb);replace HI0:=aZ (hi);clear hb hk hi;have p11:0≤(t379:Int):=zd;have q11:t379<(a2.size:Int):=zd;have hx11:=bt_at a2 t379;replace p11:=eq_true p11;replace q11:=eq_true q11)|(go_at_call 33;(with_reducible refine (Y0.calls g s0_0 t380 3 t381 t382 w0 _ ?side1 ?side2 A12.out).mono ?_);(case side1=>exact zi HI0);(case side2=>exact bw);rintro e w33 ⟨rfl,hi,hb,hk⟩;replace HK:=sT hk;replace HB:=aZ (hb);replace HI0:=aZ (hi);clear hb hk hi))
     repeat (go_quiet (first|(go_at_call 33;(with_reducible refine (Y0.calls g s0_0 s0_1 (a1.size:Int) t377 t378 w0 _ ?side1 ?side2 A7.out).mono ?_);(case side1=>exact zi HI0);(case side2=>exact bw);rintro e w31 ⟨rfl,hi,hb,hk⟩;replace HK:=sT hk;replace HB:=aZ (hb);replace HI0:=aZ (hi);clear hb hk hi)|(go_at_call 33;(with_reducible refine (Y0.calls g s0_0 t378 (a2.size:Int) t379 t380 w0 _ ?side1 ?side2 A8.out).mono ?_);(case side1=>exact zi HI0);(case side2=>exact bw);rintro e w32 ⟨rfl,hi,hb,hk⟩;replace HK:=sT hk;replace HB:=aZ (hb);replace HI0:=aZ (hi);clear hb hk hi;have p11:0≤(t379:Int):=zd;have q11:t379<(a2.size:Int):=zd;have hx11:=bt_at a2 t379;replace p11:=eq_true p11;replace q11:=eq_true q11)|(go_at_call 33;(with_reducible refine (Y0.calls g s0_0 t380 3 t381 t382 w0 _ ?side1 ?side2 A12.out).mono ?_);(case side1=>exact zi HI0);(case side2=>exact bw);rintro e w33 ⟨rfl,hi,hb,hk⟩;replace HK:=sT hk;replace HB:=aZ (hb);replace HI0:=aZ (hi);clear hb hk hi));try go_wp2_with (first|(go_at_call 33;(with_reducible refine (Y0.calls g s0_0 s0_1 (a1.size:Int) t377 t378 w0 _ ?side1 ?side2 A7.out).mono ?_);(case side1=>exact zi HI0);(case side2=>exact bw);rintro e w31 ⟨rfl,hi,hb,hk⟩;replace HK:=sT hk;replace HB:=aZ (hb);replace HI0:=aZ (hi);clear hb hk hi)|(go_at_call 33;(with_reducible refine (Y0.calls g s0_0 t378 (a2.size:Int) t379 t380 w0 _ ?side1 ?side2 A8.out).mono ?_);(case side1=>exact zi HI0);(case side2=>exact bw);rintro e w32 ⟨rfl,hi,hb,hk⟩;replace HK:=sT hk;replace HB:=aZ (hb);replace HI0:=aZ (hi);clear hb hk hi;have p11:0≤(t379:Int):=zd;have q11:t379<(a2.size:Int):=zd;have hx11:=bt_at a2 t379;replace p11:=eq_true p11;replace q11:=eq_true q11)|(go_at_call 33;(with_reducible refine (Y0.calls g s0_0 t380 3 t381 t382 w0 _ ?side1 ?side2 A12.out).mono ?_);(case side1=>exact zi HI0);(case side2=>exact bw);rintro e w33 ⟨rfl,hi,hb,hk⟩;replace HK:=sT hk;replace HB:=aZ (hb);replace HI0:=aZ (hi);clear hb hk hi)))
     go_ret
     exact ⟨ze,zi HI0,bw,kk⟩
    rw [if_pos c13] at H
    obtain ⟨c13b0,c13b1⟩:=zY c13
    clear c13
    by_cases c14:0≤t377
    case neg=>
     rw [if_neg c14] at H
     cases H
    rw [if_pos c14] at H
    have c14b0:=eq_true c14
    have c14b1:=decide_eq_true c14
    clear c14
    by_cases c15:t377≤(a1.size:Int)
    case neg=>
     rw [if_neg c15] at H
     cases H
    rw [if_pos c15] at H
    have c15b0:=eq_true c15
    have c15b1:=decide_eq_true c15
    clear c15
    by_cases c16:(a1.extract 0 (t377:Int).toNat).size+(Go.Utf8.encode (wrap32 (bt a2 t379))).size≤9223372036854775807
    case neg=>
     rw [if_neg c16] at H
     cases H
    rw [if_pos c16] at H
    have c16b0:=eq_true c16
    have c16b1:=decide_eq_true c16
    try have c16b2:=eq_false (Nat.not_lt.2 c16)
    obtain ⟨ji17,hji17⟩:∃ j_:Int,(wrap64 (t377+1))=j_:=⟨_,rfl⟩
    (first|rw [hji17] at H|simp only [hji17] at H)
    (try rw [hji17] at A7)
    (try rw [hji17] at A8)
    (try rw [hji17] at A12)
    have hji17w:(IntKind.i64.wrap (t377+1))=ji17:=(i64_w _).trans hji17
    by_cases c18:0≤(ji17)
    case neg=>
     rw [if_neg c18] at H
     cases H
    rw [if_pos c18] at H
    have c18b0:=eq_true c18
    have c18b1:=decide_eq_true c18
    clear c18
    by_cases c19:(ji17)≤(a1.size:Int)
    case neg=>
     rw [if_neg c19] at H
     cases H
    rw [if_pos c19] at H
    have c19b0:=eq_true c19
    have c19b1:=decide_eq_true c19
    clear c19
    by_cases c20:((a1.extract 0 (t377:Int).toNat)++(Go.Utf8.encode (wrap32 (bt a2 t379)))).size+(a1.extract ((ji17):Int).toNat a1.size).size≤9223372036854775807
    case neg=>
     rw [if_neg c20] at H
     cases H
    rw [if_pos c20] at H
    have c20b0:=eq_true c20
    have c20b1:=decide_eq_true c20
    try have c20b2:=eq_false (Nat.not_lt.2 c20)
    simp only [Option.some.injEq,Prod.mk.injEq] at H
    obtain ⟨rfl,rfl⟩:=H
    go_wp2_with (first|(go_at_call 33;(with_reducible refine (Y0.calls g s0_0 s0_1 (a1.size:Int) t377 t378 w0 _ ?side1 ?side2 A7.out).mono ?_);(case side1=>exact zi HI0);(case side2=>exact bw);rintro e w21 ⟨rfl,hi,hb,hk⟩;replace HK:=sT hk;replace HB:=aZ (hb);replace HI0:=aZ (hi);clear hb hk hi)|(go_at_call 33;(with_reducible refine (Y0.calls g s0_0 t378 (a2.size:Int) t379 t380 w0 _ ?side1 ?side2 A8.out).mono ?_);(case side1=>exact zi HI0);(case side2=>exact bw);rintro e w22 ⟨rfl,hi,hb,hk⟩;replace HK:=sT hk;replace HB:=aZ (hb);replace HI0:=aZ (hi);clear hb hk hi;have p11:0≤(t379:Int):=zd;have q11:t379<(a2.size:Int):=zd;have hx11:=bt_at a2 t379;replace p11:=eq_true p11;replace q11:=eq_true q11)|(go_at_call 33;(with_reducible refine (Y0.calls g s0_0 t380 3 t381 t382 w0 _ ?side1 ?side2 A12.out).mono ?_);(case side1=>exact zi HI0);(case side2=>exact bw);rintro e w23 ⟨rfl,hi,hb,hk⟩;replace HK:=sT hk;replace HB:=aZ (hb);replace HI0:=aZ (hi);clear hb hk hi))
    repeat (go_quiet (first|(go_at_call 33;(with_reducible refine (Y0.calls g s0_0 s0_1 (a1.size:Int) t377 t378 w0 _ ?side1 ?side2 A7.out).mono ?_);(case side1=>exact zi HI0);(case side2=>exact bw);rintro e w21 ⟨rfl,hi,hb,hk⟩;replace HK:=sT hk;replace HB:=aZ (hb);replace HI0:=aZ (hi);clear hb hk hi)|(go_at_call 33;(with_reducible refine (Y0.calls g s0_0 t378 (a2.size:Int) t379 t380 w0 _ ?side1 ?side2 A8.out).mono ?_);(case side1=>exact zi HI0);(case side2=>exact bw);rintro e w22 ⟨rfl,hi,hb,hk⟩;replace HK:=sT hk;replace HB:=aZ (hb);replace HI0:=aZ (hi);clear hb hk hi;have p11:0≤(t379:Int):=zd;have q11:t379<(a2.size:Int):=zd;have hx11:=bt_at a2 t379;replace p11:=eq_true p11;replace q11:=eq_true q11)|(go_at_call 33;(with_reducible refine (Y0.calls g s0_0 t380 3 t381 t382 w0 _ ?side1 ?side2 A12.out).mono ?_);(case side1=>exact zi HI0);(case side2=>exact bw);rintro e w23 ⟨rfl,hi,hb,hk⟩;replace HK:=sT hk;replace HB:=aZ (hb);replace HI0:=aZ (hi);clear hb hk hi));try go_wp2_with (first|(go_at_call 33;(with_reducible refine (Y0.calls g s0_0 s0_1 (a1.size:Int) t377 t378 w0 _ ?side1 ?side2 A7.out).mono ?_);(case side1=>exact zi HI0);(case side2=>exact bw);rintro e w21 ⟨rfl,hi,hb,hk⟩;replace HK:=sT hk;replace HB:=aZ (hb);replace HI0:=aZ (hi);clear hb hk hi)|(go_at_call 33;(with_reducible refine (Y0.calls g s0_0 t378 (a2.size:Int) t379 t380 w0 _ ?side1 ?side2 A8.out).mono ?_);(case side1=>exact zi HI0);(case side2=>exact bw);rintro e w22 ⟨rfl,hi,hb,hk⟩;replace HK:=sT hk;replace HB:=aZ (hb);replace HI0:=aZ (hi);clear hb hk hi;have p11:0≤(t379:Int):=zd;have q11:t379<(a2.size:Int):=zd;have hx11:=bt_at a2 t379;replace p11:=eq_true p11;replace q11:=eq_true q11)|(go_at_call 33;(with_reducible refine (Y0.calls g s0_0 t380 3 t381 t382 w0 _ ?side1 ?side2 A12.out).mono ?_);(case side1=>exact zi HI0);(case side2=>exact bw);rintro e w23 ⟨rfl,hi,hb,hk⟩;replace HK:=sT hk;replace HB:=aZ (hb);replace HI0:=aZ (hi);clear hb hk hi)))
    go_ret
    exact ⟨by first|rfl|(simp [errW_none,errW_some] <;> rfl)|(simp only [← hji17];first|rfl|(simp [errW_none,errW_some] <;> rfl))|(simp [*,errW_none,errW_some] <;> rfl),zi HI0,bw,kk⟩
   subst c6
   have H1:(some (a2,s0_1))=some (r1,r2):=by rw [if_pos rfl] at H;exact H
   clear H
   have H:=H1
   clear H1
   simp only [Option.some.injEq,Prod.mk.injEq] at H
   obtain ⟨rfl,rfl⟩:=H
   go_wp2
   repeat (go_quiet (fail);try go_wp2)
   go_ret
   exact ⟨ze,zi HI0,bw,kk⟩
section
def YE.f (a0:ByteArray) (a1:ByteArray):Option (ByteArray×ByteArray×Bool):=if a0.size<4294967281 then some (⟨(Lib.cut a0.data.toList a1.data.toList).1.toArray⟩,⟨(Lib.cut a0.data.toList a1.data.toList).2.1.toArray⟩,(Lib.cut a0.data.toList a1.data.toList).2.2) else none
theorem YE.calls (a0:ByteArray) (a1:ByteArray) (r1:ByteArray) (r2:ByteArray) (r3:Bool) (w:World) (hG:Tryz.Gl w) (h:YE.f a0 a1=some (r1,r2,r3)) :
  Calls Tryz.prog 126 #[.string a0,.string a1] w fun e w'=>e = .returned (.tuple #[.string r1,.string r2,.bool r3])∧Below w.heap.size w w':=by
 unfold YE.f at h
 by_cases c:a0.size<4294967281
 case neg=>rw [if_neg c] at h;cases h
 rw [if_pos c] at h
 simp only [Option.some.injEq,Prod.mk.injEq] at h
 obtain ⟨rfl,rfl,rfl⟩:=h
 obtain ⟨m,hm⟩:=hG.2.2
 refine (Tryz.strings_Cut a0 a1 m w c hm).mono ?_
 rintro e w' ⟨rfl,n,rfl⟩
 exact ⟨rfl,pw_below_drewN (Below.refl _ _) n⟩
end
def YZ.f (k:Nat) (a0:ByteArray):Option (ByteArray×ByteArray×Int):=(YE.f a0 (⟨#[47]⟩:ByteArray)).bind fun bt384=>(if bt384.2.2=true then (if bt384.2.1.toList=([49]:List UInt8) then (some ((⟨#[]⟩:ByteArray),(⟨#[]⟩:ByteArray),10)) else ((Y6.f k bt384.1 bt384.2.1).bind fun t388=>(if t388=0 then (some (bt384.1,bt384.2.1,0)) else (some ((⟨#[]⟩:ByteArray),(⟨#[]⟩:ByteArray),10))))) else ((Y6.f k bt384.1 (⟨#[49]⟩:ByteArray)).bind fun t390=>(if t390=0 then (some (bt384.1,(⟨#[49]⟩:ByteArray),0)) else (some ((⟨#[]⟩:ByteArray),(⟨#[]⟩:ByteArray),10)))))
theorem YZ.calls (k:Nat) (a0:ByteArray) (r1:ByteArray) (r2:ByteArray) (r3:Int) (w:World) (hG:Tryz.Gl w) (h:YZ.f k a0=some (r1,r2,r3)) :
  Calls Tryz.prog 74 #[.string a0] w fun e w'=>e = .returned (.tuple #[.agg #[.string r1,.string r2],.int .i64 r3])∧Below w.heap.size w w':=by
 have hu61:=underlying61
 have HG:=aZ hG
 clear hG
 have HB:=aZ (Below.refl w.heap.size w)
 have H:=h
 unfold YZ.f at H
 clear h
 obtain ⟨⟨t384,t385,t386⟩,A2,H⟩:=zB H
 (try dsimp only at H)
 by_cases c3:t386=true
 case neg=>
  replace c3:=Bool.eq_false_iff.mpr c3
  subst c3
  have H1:((Y6.f k t384 (⟨#[49]⟩:ByteArray)).bind fun t390=>(if t390=0 then (some (t384,(⟨#[49]⟩:ByteArray),0)) else (some ((⟨#[]⟩:ByteArray),(⟨#[]⟩:ByteArray),10))))=some (r1,r2,r3):=by rw [if_neg (show ¬ (false=true) by decide)] at H;exact H
  clear H
  have H:=H1
  clear H1
  obtain ⟨t390,A28,H⟩:=zB H
  by_cases c29:t390=0
  case neg=>
   rw [if_neg c29] at H
   obtain ⟨c29b0,c29b1⟩:=zX c29
   simp only [Option.some.injEq,Prod.mk.injEq] at H
   obtain ⟨rfl,rfl,rfl⟩:=H
   go_enter func74,ntmps74
   go_wp2_with (first|(refine box_ev 2 #[.string ⟨#[]⟩,.string ⟨#[]⟩] 61 ?_;intro gb383 hg w38 hbox hb;have BK383:=aZ hbox;have GE383:=sG hg;replace HB:=sB hb;clear hb hbox hg)|(refine zg (some 10) func126 #[.string a0,.string (⟨#[47]⟩:ByteArray)] ?_;(with_reducible refine (YE.calls a0 (⟨#[47]⟩:ByteArray) t384 t385 false _ ?side1 A2.out).mono ?_);(case side1=>exact Tryz.Gl.below HG.out bw);rintro e w39 ⟨rfl,hb⟩;refine ⟨_,rfl,?_⟩;replace BK383:=sK BK383 hb;replace HB:=sB hb;clear hb)|(refine box_ev 7 #[.string ⟨#[]⟩,.string ⟨#[]⟩] 61 ?_;intro gb389 hg w40 hbox hb;have BK389:=aZ hbox;have GE389:=sG hg;replace HB:=sB hb;have NB383_389:=sl hg BK383;have NB389_383:=sg hg BK383;replace BK383:=sK BK383 hb;clear hb hbox hg;have hnb41:=NB389_383.out;have hnc41:=NB383_389.out;obtain ⟨hcz42_0,hfz42_0⟩:=zc BK389 0 (.string ⟨#[]⟩) rfl;obtain ⟨hcz42_1,hfz42_1⟩:=zc BK389 1 (.string ⟨#[]⟩) rfl)|(go_at_call 56;(with_reducible refine (Y6.calls k t384 (⟨#[49]⟩:ByteArray) t390 _ A28.out).mono ?_);rintro e w43 ⟨rfl,hb⟩;replace BK383:=aZ (blk_below (g:=gb383) (o:=.cells #[.string ⟨#[]⟩,.string ⟨#[]⟩] 61 (0,0)) (zq BK383) hb);replace BK389:=sP (.cells #[.string t384,.string (⟨#[49]⟩:ByteArray)] 61 (0,0)) BK389 hb;replace HB:=sB hb;clear hb;obtain ⟨hcz44_0,hfz44_0⟩:=zc BK383 0 (.string ⟨#[]⟩) rfl;obtain ⟨hcz44_1,hfz44_1⟩:=zc BK383 1 (.string ⟨#[]⟩) rfl))
   refine bodyPost_ret (results_ct rfl _ _ gb383 61 #[.string ⟨#[]⟩,.string ⟨#[]⟩] (0,0) _ rfl (zp BK383) underlying61 rfl (by kernel_rfl)) rfl ?_
   exact ⟨ze,bw⟩
  rw [if_pos c29] at H
  obtain ⟨c29b0,c29b1⟩:=zY c29
  clear c29
  simp only [Option.some.injEq,Prod.mk.injEq] at H
  obtain ⟨rfl,rfl,rfl⟩:=H
  go_enter func74,ntmps74
  go_wp2_with (first|(refine box_ev 2 #[.string ⟨#[]⟩,.string ⟨#[]⟩] 61 ?_;intro gb383 hg w30 hbox hb;have BK383:=aZ hbox;have GE383:=sG hg;replace HB:=sB hb;clear hb hbox hg)|(refine zg (some 10) func126 #[.string a0,.string (⟨#[47]⟩:ByteArray)] ?_;(with_reducible refine (YE.calls a0 (⟨#[47]⟩:ByteArray) t384 t385 false _ ?side1 A2.out).mono ?_);(case side1=>exact Tryz.Gl.below HG.out bw);rintro e w31 ⟨rfl,hb⟩;refine ⟨_,rfl,?_⟩;replace BK383:=sK BK383 hb;replace HB:=sB hb;clear hb)|(refine box_ev 7 #[.string ⟨#[]⟩,.string ⟨#[]⟩] 61 ?_;intro gb389 hg w32 hbox hb;have BK389:=aZ hbox;have GE389:=sG hg;replace HB:=sB hb;have NB383_389:=sl hg BK383;have NB389_383:=sg hg BK383;replace BK383:=sK BK383 hb;clear hb hbox hg;have hnb33:=NB389_383.out;have hnc33:=NB383_389.out;obtain ⟨hcz34_0,hfz34_0⟩:=zc BK389 0 (.string ⟨#[]⟩) rfl;obtain ⟨hcz34_1,hfz34_1⟩:=zc BK389 1 (.string ⟨#[]⟩) rfl)|(go_at_call 56;(with_reducible refine (Y6.calls k t384 (⟨#[49]⟩:ByteArray) t390 _ A28.out).mono ?_);rintro e w35 ⟨rfl,hb⟩;replace BK383:=aZ (blk_below (g:=gb383) (o:=.cells #[.string ⟨#[]⟩,.string ⟨#[]⟩] 61 (0,0)) (zq BK383) hb);replace BK389:=sP (.cells #[.string t384,.string (⟨#[49]⟩:ByteArray)] 61 (0,0)) BK389 hb;replace HB:=sB hb;clear hb;obtain ⟨hcz36_0,hfz36_0⟩:=zc BK389 0 (.string t384) rfl;obtain ⟨hcz36_1,hfz36_1⟩:=zc BK389 1 (.string (⟨#[49]⟩:ByteArray)) rfl;obtain ⟨hcz37_0,hfz37_0⟩:=zc BK383 0 (.string ⟨#[]⟩) rfl;obtain ⟨hcz37_1,hfz37_1⟩:=zc BK383 1 (.string ⟨#[]⟩) rfl))
  refine bodyPost_ret (results_ct rfl _ _ gb383 61 #[.string t384,.string (⟨#[49]⟩:ByteArray)] (0,0) _ rfl (zp BK383) underlying61 rfl (by kernel_rfl)) rfl ?_
  exact ⟨ze,bw⟩
 subst c3
 have H1:(if t385.toList=([49]:List UInt8) then (some ((⟨#[]⟩:ByteArray),(⟨#[]⟩:ByteArray),10)) else ((Y6.f k t384 t385).bind fun t388=>(if t388=0 then (some (t384,t385,0)) else (some ((⟨#[]⟩:ByteArray),(⟨#[]⟩:ByteArray),10)))))=some (r1,r2,r3):=by rw [if_pos rfl] at H;exact H
 clear H
 have H:=H1
 clear H1
 by_cases c4:t385.toList=([49]:List UInt8)
 case neg=>
  rw [if_neg c4] at H
  obtain ⟨c4b0,c4b1⟩:=zX c4
  obtain ⟨t388,A11,H⟩:=zB H
  by_cases c12:t388=0
  case neg=>
   rw [if_neg c12] at H
   obtain ⟨c12b0,c12b1⟩:=zX c12
   simp only [Option.some.injEq,Prod.mk.injEq] at H
   obtain ⟨rfl,rfl,rfl⟩:=H
   go_enter func74,ntmps74
   go_wp2_with (first|(refine box_ev 2 #[.string ⟨#[]⟩,.string ⟨#[]⟩] 61 ?_;intro gb383 hg w21 hbox hb;have BK383:=aZ hbox;have GE383:=sG hg;replace HB:=sB hb;clear hb hbox hg)|(refine zg (some 10) func126 #[.string a0,.string (⟨#[47]⟩:ByteArray)] ?_;(with_reducible refine (YE.calls a0 (⟨#[47]⟩:ByteArray) t384 t385 true _ ?side1 A2.out).mono ?_);(case side1=>exact Tryz.Gl.below HG.out bw);rintro e w22 ⟨rfl,hb⟩;refine ⟨_,rfl,?_⟩;replace BK383:=sK BK383 hb;replace HB:=sB hb;clear hb)|(refine box_ev 7 #[.string ⟨#[]⟩,.string ⟨#[]⟩] 61 ?_;intro gb387 hg w23 hbox hb;have BK387:=aZ hbox;have GE387:=sG hg;replace HB:=sB hb;have NB383_387:=sl hg BK383;have NB387_383:=sg hg BK383;replace BK383:=sK BK383 hb;clear hb hbox hg;have hnb24:=NB387_383.out;have hnc24:=NB383_387.out;obtain ⟨hcz25_0,hfz25_0⟩:=zc BK387 0 (.string ⟨#[]⟩) rfl;obtain ⟨hcz25_1,hfz25_1⟩:=zc BK387 1 (.string ⟨#[]⟩) rfl)|(go_at_call 56;(with_reducible refine (Y6.calls k t384 t385 t388 _ A11.out).mono ?_);rintro e w26 ⟨rfl,hb⟩;replace BK383:=aZ (blk_below (g:=gb383) (o:=.cells #[.string ⟨#[]⟩,.string ⟨#[]⟩] 61 (0,0)) (zq BK383) hb);replace BK387:=sP (.cells #[.string t384,.string t385] 61 (0,0)) BK387 hb;replace HB:=sB hb;clear hb;obtain ⟨hcz27_0,hfz27_0⟩:=zc BK383 0 (.string ⟨#[]⟩) rfl;obtain ⟨hcz27_1,hfz27_1⟩:=zc BK383 1 (.string ⟨#[]⟩) rfl))
   refine bodyPost_ret (results_ct rfl _ _ gb383 61 #[.string ⟨#[]⟩,.string ⟨#[]⟩] (0,0) _ rfl (zp BK383) underlying61 rfl (by kernel_rfl)) rfl ?_
   exact ⟨ze,bw⟩
  rw [if_pos c12] at H
  obtain ⟨c12b0,c12b1⟩:=zY c12
  clear c12
  simp only [Option.some.injEq,Prod.mk.injEq] at H
  obtain ⟨rfl,rfl,rfl⟩:=H
  go_enter func74,ntmps74
  go_wp2_with (first|(refine box_ev 2 #[.string ⟨#[]⟩,.string ⟨#[]⟩] 61 ?_;intro gb383 hg w13 hbox hb;have BK383:=aZ hbox;have GE383:=sG hg;replace HB:=sB hb;clear hb hbox hg)|(refine zg (some 10) func126 #[.string a0,.string (⟨#[47]⟩:ByteArray)] ?_;(with_reducible refine (YE.calls a0 (⟨#[47]⟩:ByteArray) t384 t385 true _ ?side1 A2.out).mono ?_);(case side1=>exact Tryz.Gl.below HG.out bw);rintro e w14 ⟨rfl,hb⟩;refine ⟨_,rfl,?_⟩;replace BK383:=sK BK383 hb;replace HB:=sB hb;clear hb)|(refine box_ev 7 #[.string ⟨#[]⟩,.string ⟨#[]⟩] 61 ?_;intro gb387 hg w15 hbox hb;have BK387:=aZ hbox;have GE387:=sG hg;replace HB:=sB hb;have NB383_387:=sl hg BK383;have NB387_383:=sg hg BK383;replace BK383:=sK BK383 hb;clear hb hbox hg;have hnb16:=NB387_383.out;have hnc16:=NB383_387.out;obtain ⟨hcz17_0,hfz17_0⟩:=zc BK387 0 (.string ⟨#[]⟩) rfl;obtain ⟨hcz17_1,hfz17_1⟩:=zc BK387 1 (.string ⟨#[]⟩) rfl)|(go_at_call 56;(with_reducible refine (Y6.calls k t384 t385 t388 _ A11.out).mono ?_);rintro e w18 ⟨rfl,hb⟩;replace BK383:=aZ (blk_below (g:=gb383) (o:=.cells #[.string ⟨#[]⟩,.string ⟨#[]⟩] 61 (0,0)) (zq BK383) hb);replace BK387:=sP (.cells #[.string t384,.string t385] 61 (0,0)) BK387 hb;replace HB:=sB hb;clear hb;obtain ⟨hcz19_0,hfz19_0⟩:=zc BK387 0 (.string t384) rfl;obtain ⟨hcz19_1,hfz19_1⟩:=zc BK387 1 (.string t385) rfl;obtain ⟨hcz20_0,hfz20_0⟩:=zc BK383 0 (.string ⟨#[]⟩) rfl;obtain ⟨hcz20_1,hfz20_1⟩:=zc BK383 1 (.string ⟨#[]⟩) rfl))
  refine bodyPost_ret (results_ct rfl _ _ gb383 61 #[.string t384,.string t385] (0,0) _ rfl (zp BK383) underlying61 rfl (by kernel_rfl)) rfl ?_
  exact ⟨ze,bw⟩
 rw [if_pos c4] at H
 obtain ⟨c4b0,c4b1⟩:=zY c4
 clear c4
 simp only [Option.some.injEq,Prod.mk.injEq] at H
 obtain ⟨rfl,rfl,rfl⟩:=H
 go_enter func74,ntmps74
 go_wp2_with (first|(refine box_ev 2 #[.string ⟨#[]⟩,.string ⟨#[]⟩] 61 ?_;intro gb383 hg w5 hbox hb;have BK383:=aZ hbox;have GE383:=sG hg;replace HB:=sB hb;clear hb hbox hg)|(refine zg (some 10) func126 #[.string a0,.string (⟨#[47]⟩:ByteArray)] ?_;(with_reducible refine (YE.calls a0 (⟨#[47]⟩:ByteArray) t384 t385 true _ ?side1 A2.out).mono ?_);(case side1=>exact Tryz.Gl.below HG.out bw);rintro e w6 ⟨rfl,hb⟩;refine ⟨_,rfl,?_⟩;replace BK383:=sK BK383 hb;replace HB:=sB hb;clear hb)|(refine box_ev 7 #[.string ⟨#[]⟩,.string ⟨#[]⟩] 61 ?_;intro gb387 hg w7 hbox hb;have BK387:=aZ hbox;have GE387:=sG hg;replace HB:=sB hb;have NB383_387:=sl hg BK383;have NB387_383:=sg hg BK383;replace BK383:=sK BK383 hb;clear hb hbox hg;have hnb8:=NB387_383.out;have hnc8:=NB383_387.out;obtain ⟨hcz9_0,hfz9_0⟩:=zc BK387 0 (.string ⟨#[]⟩) rfl;obtain ⟨hcz9_1,hfz9_1⟩:=zc BK387 1 (.string ⟨#[]⟩) rfl;obtain ⟨hcz10_0,hfz10_0⟩:=zc BK383 0 (.string ⟨#[]⟩) rfl;obtain ⟨hcz10_1,hfz10_1⟩:=zc BK383 1 (.string ⟨#[]⟩) rfl))
 refine bodyPost_ret (results_ct rfl _ _ gb383 61 #[.string ⟨#[]⟩,.string ⟨#[]⟩] (0,0) _ rfl (zq BK383) underlying61 rfl (by kernel_rfl)) rfl ?_
 exact ⟨ze,bw⟩
def Yh.l0:Nat→ByteArray→Int→Int→Option (Bool)
 | 0,_,_,_=>none
 | k+1,x0,x5,x6=>if x6<x5 then (if 0≤x6 then (if x6<(x0.size:Int) then (if (bt x0 x6)<48 then (some false) else (if (bt x0 x6)>57 then (some false) else (Yh.l0 k x0 x5 (wrap64 (x6+1))))) else (none)) else (none)) else (if x0.toList=([]:List UInt8) then (some false) else (if 0<(x0.size:Int) then (if (bt x0 0)=48 then (some (x0.toList==([48]:List UInt8))) else (some true)) else (none)))
def Yh.f (k:Nat) (a0:ByteArray):Option (Bool):=Yh.l0 k a0 (a0.size:Int) 0
theorem Yh.calls (k:Nat) (a0:ByteArray) (r:Bool) (w:World) (h:Yh.f k a0=some r) :
  Calls Tryz.prog 103 #[.string a0] w fun e w'=>e = .returned (.bool r)∧Drawn0 w w':=by
 have H:=h
 unfold Yh.f at H
 clear h
 have H':=aZ H
 clear H
 go_enter func103,ntmps103
 go_wp2
 go_loopg [6] k (fun kq v6 w'=>∃ (x6_1:Int),v6 = .int .i64 x6_1∧Aside0 (Yh.l0 kq a0 (a0.size:Int) x6_1=some r)∧Aside0 (kq≤k)∧Drawn0 w w')
 case atStart=>exact ⟨(0),zs,H',⟨Nat.le_refl _⟩,by repeat (first|exact Drawn0.refl _|apply Drawn0.step)⟩
 case round =>
  clear H'
  try clear c1
  obtain ⟨x6_1,rfl,HA,HK1,⟨m1,rfl⟩⟩:=hrel
  cases gk with
  | zero=>exact absurd HA.out (by simp [Yh.l0])
  | succ k1 =>
   have H:=HA.out
   clear HA
   simp only [Yh.l0] at H
   by_cases c2:x6_1<(a0.size:Int)
   case neg=>
    rw [if_neg c2] at H
    have c2b0:=decide_eq_false c2
    clear c2
    by_cases c9:a0.toList=([]:List UInt8)
    case neg=>
     rw [if_neg c9] at H
     obtain ⟨c9b0,c9b1⟩:=zX c9
     by_cases c10:0<(a0.size:Int)
     case neg=>
      rw [if_neg c10] at H
      cases H
     rw [if_pos c10] at H
     have c10b0:=decide_eq_true c10
     have c10b1:decide (0<a0.size)=true:=decide_eq_true (by omega)
     clear c10
     by_cases c12:(bt a0 0)=48
     case neg=>
      rw [if_neg c12] at H
      obtain ⟨c12b0,c12b1⟩:=zX c12
      obtain rfl:=Option.some.inj H
      have p11:0≤(0:Int):=(by omega)
      have q11:0<a0.size:=(by have:(0:Int)<(a0.size:Int):=zd;omega)
      have hx11:∀ h:0<a0.size,((a0[0]'h).toNat:Int)=bt a0 0:=bt_at a0 0
      clear p11
      have qi11:(0<(a0.size:Int))=True:=eq_true (zd)
      replace q11:=eq_true q11
      go_wp2
      go_ret
      exact ⟨zs,by repeat (first|exact Drawn0.refl _|apply Drawn0.step)⟩
     rw [if_pos c12] at H
     obtain ⟨c12b0,c12b1⟩:=zY c12
     clear c12
     obtain rfl:=Option.some.inj H
     have p11:0≤(0:Int):=(by omega)
     have q11:0<a0.size:=(by have:(0:Int)<(a0.size:Int):=zd;omega)
     have hx11:∀ h:0<a0.size,((a0[0]'h).toNat:Int)=bt a0 0:=bt_at a0 0
     clear p11
     have qi11:(0<(a0.size:Int))=True:=eq_true (zd)
     replace q11:=eq_true q11
     go_wp2
     go_ret
     exact ⟨zs,by repeat (first|exact Drawn0.refl _|apply Drawn0.step)⟩
    rw [if_pos c9] at H
    obtain ⟨c9b0,c9b1⟩:=zY c9
    clear c9
    obtain rfl:=Option.some.inj H
    go_wp2
    go_ret
    exact ⟨zs,by repeat (first|exact Drawn0.refl _|apply Drawn0.step)⟩
   rw [if_pos c2] at H
   have c2b0:=decide_eq_true c2
   clear c2
   by_cases c3:0≤x6_1
   case neg=>
    rw [if_neg c3] at H
    cases H
   rw [if_pos c3] at H
   have c3b0:=decide_eq_true c3
   clear c3
   by_cases c4:x6_1<(a0.size:Int)
   case neg=>
    rw [if_neg c4] at H
    cases H
   rw [if_pos c4] at H
   have c4b0:=decide_eq_true c4
   clear c4
   by_cases c6:(bt a0 x6_1)<48
   case neg=>
    rw [if_neg c6] at H
    have c6b0:=decide_eq_false c6
    clear c6
    by_cases c8:(bt a0 x6_1)>57
    case neg=>
     rw [if_neg c8] at H
     have c8b0:=decide_eq_false c8
     clear c8
     have H':=aZ H
     clear H
     have p5:0≤(x6_1:Int):=zd
     have q5:x6_1<(a0.size:Int):=zd
     have hx5:=bt_at a0 x6_1
     replace p5:=eq_true p5
     replace q5:=eq_true q5
     have p7:0≤(x6_1:Int):=zd
     have q7:x6_1<(a0.size:Int):=zd
     have hx7:=bt_at a0 x6_1
     replace p7:=eq_true p7
     replace q7:=eq_true q7
     go_wp2
     go_roundg k1
     case measure=>have:=HK1.out;omega
     case rel=>exact ⟨(wrap64 (x6_1+1)),zs,H',⟨by have:=HK1.out;omega⟩,by repeat (first|exact Drawn0.refl _|apply Drawn0.step)⟩
    rw [if_pos c8] at H
    have c8b0:=decide_eq_true c8
    clear c8
    obtain rfl:=Option.some.inj H
    have p5:0≤(x6_1:Int):=zd
    have q5:x6_1<(a0.size:Int):=zd
    have hx5:=bt_at a0 x6_1
    replace p5:=eq_true p5
    replace q5:=eq_true q5
    have p7:0≤(x6_1:Int):=zd
    have q7:x6_1<(a0.size:Int):=zd
    have hx7:=bt_at a0 x6_1
    replace p7:=eq_true p7
    replace q7:=eq_true q7
    go_wp2
    go_ret
    exact ⟨zs,by repeat (first|exact Drawn0.refl _|apply Drawn0.step)⟩
   rw [if_pos c6] at H
   have c6b0:=decide_eq_true c6
   clear c6
   obtain rfl:=Option.some.inj H
   have p5:0≤(x6_1:Int):=zd
   have q5:x6_1<(a0.size:Int):=zd
   have hx5:=bt_at a0 x6_1
   replace p5:=eq_true p5
   replace q5:=eq_true q5
   go_wp2
   go_ret
   exact ⟨zs,by repeat (first|exact Drawn0.refl _|apply Drawn0.step)⟩
def Ya.l0:Nat→Int→List Int→Option (List Int)
 | 0,_,_=>none
 | k+1,x0,x3=>if x0 > 0 then (if x3.length<17592186044416 then (Ya.l0 k (IntKind.u64.wrap (Int.tdiv x0 10000)) (x3++[wrap64 (Int.tmod x0 10000)])) else (none)) else (some x3)
def Ya.f (k:Nat) (a0:Int):Option (List Int):=Ya.l0 k a0 ([]:List Int)
theorem Ya.mono_l:∀ k,(∀ y0 y1,LeO (Ya.l0 k y0 y1) (Ya.l0 (k+1) y0 y1))
 | 0=>fun _ _ r h=>by simp [Ya.l0] at h
 | k+1=>by
  have ih0:=Ya.mono_l k
  ·intro y0 y1
   unfold Ya.l0
   exact zM
theorem Ya.mono:∀ a0 k,LeO (Ya.f k a0) (Ya.f (k+1) a0):=by
 intro a0 k
 have ih0:=Ya.mono_l k
 unfold Ya.f
 exact zM
theorem Ya.calls (k:Nat) (a0:Int) (r:List Int) (w:World) (h:Ya.f k a0=some r) :
  Calls Tryz.prog 98 #[.int .u64 a0] w fun e w'=>∃ v0_:Value,e = .returned (v0_)∧Kd.R (Kd.int .i64) 3 w' w.heap.size (fun _=>True) v0_ r∧Below w.heap.size w w':=by
 have HB:=aZ (Below.refl w.heap.size w)
 have H:=h
 unfold Ya.f at H
 clear h
 have H':=aZ H
 clear H
 go_enter func98,ntmps98
 go_wp2
 go_loopg [0,3] k (fun kq v0 v3 w'=>∃ (x0_1:Int) (x3_1:List Int),v0 = .int .u64 x0_1∧Aside0 (Ya.l0 kq x0_1 x3_1=some r)∧Aside0 (kq≤k)∧Aside0 (Kd.R (Kd.int .i64) 3 w' w.heap.size (fun _=>True) v3 x3_1)∧Aside0 (Below w.heap.size w w'))
 case atStart=>exact ⟨(a0),(([]:List Int)),zs,H',⟨Nat.le_refl _⟩,⟨by first|exact Kd.R_nil _ _ _ _ _|exact Kd.N_nil _ _ _ _ _|exact Kd.V_nil _ _ _ _ _|exact Kd.Q_nil _ _ _ _ _|exact Kd.S_nil _ _ _ _ _⟩,⟨bw⟩⟩
 case round =>
  clear H'
  obtain ⟨x0_1,x3_1,rfl,HA,HK1,HO_3,HB⟩:=hrel
  cases gk with
  | zero=>exact absurd HA.out (by simp [Ya.l0])
  | succ k1 =>
   have H:=HA.out
   clear HA
   simp only [Ya.l0] at H
   by_cases c2:x0_1 > 0
   case neg=>
    rw [if_neg c2] at H
    have c2b0:=decide_eq_false c2
    clear c2
    obtain rfl:=Option.some.inj H
    go_wp2
    go_ret
    exact ⟨_,ze,zR HO_3,bw⟩
   rw [if_pos c2] at H
   have c2b0:=decide_eq_true c2
   clear c2
   by_cases c3:x3_1.length<17592186044416
   case neg=>
    rw [if_neg c3] at H
    cases H
   rw [if_pos c3] at H
   have LMc3:=aZ c3
   clear c3
   obtain ⟨y391,hy391⟩:∃ y_:List Int,y_=(x3_1++[wrap64 (Int.tmod x0_1 10000)]):=⟨_,rfl⟩
   replace H:(Ya.l0 k1 (IntKind.u64.wrap (Int.tdiv x0_1 10000)) y391)=some r:=zy hy391 H
   have Ny391:=aZ hy391
   clear hy391
   have H':=aZ H
   clear H
   go_wp2_with (first|((with_reducible refine gate_builtin (b:=.append) (xs:=#[.tmp 8,.tmp 12]) rfl ?_);at_builtin;refine Kd.R_append (Kd.int .i64) (w0:=w) w.heap.size rfl (.tmp 8) (.tmp 12) 65 3 (.int .i64 0) 8 rfl underlying65 info3 rfl (by decide) (by omega) u3 x3_1 (wrap64 (Int.tmod x0_1 10000)) [.int .i64 (wrap64 (Int.tmod x0_1 10000))] (fun _=>True) (fun _=>False) rfl rfl ?aP (fun _ hk=>hk.elim) ?aF ?aO ?aB ?aS ?aL ?_;(case aP=>exact rfl);(case aB=>exact bw);(case aF=>exact (fun _ _=>trivial));(case aO=>exact (zR HO_3));(case aS=>exact bs);(case aL=>have:=LMc3.out;omega);intro v392 w4 ho hb hg hat;rw [← Ny391.out] at ho;replace HB:=aZ (hb);have HO393:=aZ (ho);clear HO_3;clear ho hb hg hat))
   go_roundg k1
   case measure=>have:=HK1.out;omega
   case rel=>exact ⟨(IntKind.u64.wrap (Int.tdiv x0_1 10000)),(y391),zs,H',⟨by have:=HK1.out;omega⟩,⟨zR HO393⟩,⟨bw⟩⟩
def Y2.l0:Nat→List Int→Option (List Int)
 | 0,_=>none
 | k+1,x0=>if (x0.length:Int)>0 then (if 0≤(wrap64 ((x0.length:Int)-1)) then (if (wrap64 ((x0.length:Int)-1))<(x0.length:Int) then (if (rd x0 (wrap64 ((x0.length:Int)-1)))=0 then (if (wrap64 ((x0.length:Int)-1))≤(x0.length:Int) then (Y2.l0 k (x0.take ((wrap64 ((x0.length:Int)-1)):Int).toNat)) else (none)) else (some x0)) else (none)) else (none)) else (some x0)
def Y2.f (k:Nat) (l0:List Int):Option (List Int):=Y2.l0 k l0
theorem Y2.mono_l:∀ k,(∀ y0,LeO (Y2.l0 k y0) (Y2.l0 (k+1) y0))
 | 0=>fun _ r h=>by simp [Y2.l0] at h
 | k+1=>by
  have ih0:=Y2.mono_l k
  ·intro y0
   unfold Y2.l0
   exact zM
theorem Y2.mono:∀ a0 k,LeO (Y2.f k a0) (Y2.f (k+1) a0):=by
 intro a0 k
 have ih0:=Y2.mono_l k
 unfold Y2.f
 exact zM
theorem Y2.calls (k:Nat) (P0_:Nat→Prop) (A0:Option Addr) (c0:Nat) (l0:List Int) (r:List Int) (w:World) (hs0:Kd.V (Kd.int .i64) 3 w w.heap.size (fun k_=>P0_ k_) (.slice A0 l0.length c0) l0) (h:Y2.f k l0=some r) :
  Calls Tryz.prog 141 #[.slice A0 l0.length c0] w fun e w'=>∃ v0_:Value,e = .returned (v0_)∧Kd.V (Kd.int .i64) 3 w' w.heap.size (fun k_=>(P0_ k_∨w.heap.size≤k_)) v0_ r∧Below w.heap.size w w':=by
 have HO0:=aZ (show Kd.V (Kd.int .i64) 3 w w.heap.size (fun k_=>(P0_ k_∨w.heap.size≤k_)) (.slice A0 l0.length c0) l0 from Kd.V_mono hs0 (fun k_ hk=>.inl hk))
 have HB:=aZ (Below.refl w.heap.size w)
 have H:=h
 unfold Y2.f at H
 clear h
 have H':=aZ H
 clear H
 go_enter func141,ntmps141
 go_wp2
 go_loopg [0] k (fun kq v0 w'=>∃ (x0_1:List Int),Aside0 (Y2.l0 kq x0_1=some r)∧Aside0 (kq≤k)∧Aside0 (Kd.V (Kd.int .i64) 3 w' w.heap.size (fun k_=>(P0_ k_∨w.heap.size≤k_)) v0 x0_1)∧Aside0 (Below w.heap.size w w'))
 case atStart=>exact ⟨(l0),H',⟨Nat.le_refl _⟩,⟨zV HO0⟩,⟨bw⟩⟩
 case round =>
  clear H'
  try clear c1
  obtain ⟨x0_1,HA,HK1,HO_0,HB⟩:=hrel
  cases gk with
  | zero=>exact absurd HA.out (by simp [Y2.l0])
  | succ k1 =>
   have H:=HA.out
   clear HA
   simp only [Y2.l0] at H
   by_cases c2:(x0_1.length:Int)>0
   case neg=>
    rw [if_neg c2] at H
    have c2b0:=decide_eq_false c2
    have c2b1:decide (0<x0_1.length)=false:=decide_eq_false (by omega)
    clear c2
    obtain rfl:=Option.some.inj H
    obtain ⟨Ao12,co12,rfl⟩:=Kd.V_slice HO_0.out
    go_wp2
    go_ret
    exact ⟨_,ze,zV HO_0,bw⟩
   rw [if_pos c2] at H
   have c2b0:=decide_eq_true c2
   have c2b1:decide (0<x0_1.length)=true:=decide_eq_true (by omega)
   clear c2
   obtain ⟨ji3,hji3⟩:∃ j_:Int,(wrap64 ((x0_1.length:Int)-1))=j_:=⟨_,rfl⟩
   (first|rw [hji3] at H|simp only [hji3] at H)
   have hji3w:(IntKind.i64.wrap ((x0_1.length:Int)-1))=ji3:=(i64_w _).trans hji3
   by_cases c4:0≤(ji3)
   case neg=>
    rw [if_neg c4] at H
    cases H
   rw [if_pos c4] at H
   have c4b0:=decide_eq_true c4
   clear c4
   by_cases c5:(ji3)<(x0_1.length:Int)
   case neg=>
    rw [if_neg c5] at H
    cases H
   rw [if_pos c5] at H
   have c5b0:=decide_eq_true c5
   clear c5
   by_cases c6:(rd x0_1 (ji3))=0
   case neg=>
    rw [if_neg c6] at H
    obtain ⟨c6b0,c6b1⟩:=zX c6
    obtain rfl:=Option.some.inj H
    obtain ⟨Ao11,co11,rfl⟩:=Kd.V_slice HO_0.out
    have p394:0≤((ji3):Int):=zd
    have q394:(ji3)<(x0_1.length:Int):=zd
    obtain ⟨ad394,e394,hx394_0⟩:=Kd.at_int (Kd.V_reads' HO_0.out).2.2 (ji3) p394 q394
    cases e394
    replace p394:=eq_true p394
    replace q394:=eq_true q394
    go_wp2
    go_ret
    exact ⟨_,by first|rfl|(simp [errW_none,errW_some] <;> rfl)|(simp only [← hji3];first|rfl|(simp [errW_none,errW_some] <;> rfl))|(simp [*,errW_none,errW_some] <;> rfl),zV HO_0,bw⟩
   rw [if_pos c6] at H
   obtain ⟨c6b0,c6b1⟩:=zY c6
   clear c6
   have c7b0:=eq_true (zd:0≤(ji3))
   by_cases c8:(ji3)≤(x0_1.length:Int)
   case neg=>
    rw [if_neg c8] at H
    cases H
   rw [if_pos c8] at H
   have c8b0:=eq_true c8
   have c8b1:=decide_eq_true c8
   clear c8
   obtain ⟨y395,hy395⟩:∃ y_:List Int,y_=(x0_1.take ((ji3):Int).toNat):=⟨_,rfl⟩
   replace H:(Y2.l0 k1 y395)=some r:=zy hy395 H
   have Ny395:=aZ hy395
   clear hy395
   have H':=aZ H
   clear H
   obtain ⟨Ao9,co9,rfl⟩:=Kd.V_slice HO_0.out
   have p394:0≤((ji3):Int):=zd
   have q394:(ji3)<(x0_1.length:Int):=zd
   obtain ⟨ad394,e394,hx394_0⟩:=Kd.at_int (Kd.V_reads' HO_0.out).2.2 (ji3) p394 q394
   cases e394
   replace p394:=eq_true p394
   replace q394:=eq_true q394
   have q10:((ji3):Int)≤((x0_1.length:Int):Int):=zd
   obtain ⟨i010,hi010,_,hsz10,_⟩:=info_parts info3
   have hroom10:x0_1.length≤co9:=(Kd.V_reads' HO_0.out).2.1
   have hC10:Kd.F (Kd.int .i64) _ _ (some ad394) x0_1.length x0_1:=(Kd.V_at (base:=w.heap.size) HO_0.out).2.2
   have hcut10:=cut_to (P:=Tryz.prog) 65 3 .i64 underlying65 hi010 (some ad394) x0_1.length co9 (ji3) (zd) q10 hroom10
   have hr10:=Kd.F_take (m:=((ji3):Int).toNat) hC10 (by omega)
   have hy10:y395.length=((ji3):Int).toNat:=(by rw [Ny395.out,List.length_take];omega)
   rw [← Ny395.out] at hr10
   rw [← hy10] at hcut10
   have HO399:=aZ (show Kd.V (Kd.int .i64) 3 _ w.heap.size _ (.slice (some ad394) y395.length co9) y395 from Kd.V_mk (by omega) hr10)
   have HC399:=aZ (show y395.length≤co9 from by omega)
   clear hr10 hC10 hroom10 hi010 hsz10
   have KY10:=aZ hy10
   clear hy10
   replace q10:=eq_true q10
   go_wp2
   go_roundg k1
   case measure=>have:=HK1.out;omega
   case rel=>exact ⟨(y395),H',⟨by have:=HK1.out;omega⟩,⟨zV HO399⟩,⟨bw⟩⟩
mutual
def Y1.l0:Nat→List Int→Int→Int→Int→Option (List Int)
 | 0,_,_,_,_=>none
 | k+1,x0,x3,x6,x7=>if x7<x6 then (if 0≤x7 then (if x7<(x0.length:Int) then ((some (x0.set (x7:Int).toNat (Int.tmod (wrap64 (x3+(rd x0 x7))) 10000):List Int)).bind fun y401=>(if (rd y401 x7)<0 then (Y1.l0 k (y401.set (x7:Int).toNat (wrap64 ((rd y401 x7)+10000))) (wrap64 ((wrap64 (Int.tdiv (wrap64 (x3+(rd x0 x7))) 10000))-1)) x6 (wrap64 (x7+1))) else (Y1.l0 k y401 (wrap64 (Int.tdiv (wrap64 (x3+(rd x0 x7))) 10000)) x6 (wrap64 (x7+1))))) else (none)) else (none)) else (Y1.l1 k x0 x3)
def Y1.l1:Nat→List Int→Int→Option (List Int)
 | 0,_,_=>none
 | k+1,x0,x3=>if x3 > 0 then (if x0.length<17592186044416 then (Y1.l1 k (x0++[Int.tmod x3 10000]) (wrap64 (Int.tdiv x3 10000))) else (none)) else ((Y2.f k x0).bind fun t408=>(some t408))
end
def Y1.f (k:Nat) (l0:List Int):Option (List Int):=Y1.l0 k l0 0 (l0.length:Int) 0
theorem Y1.mono_l:∀ k,(∀ y0 y1 y2 y3,LeO (Y1.l0 k y0 y1 y2 y3) (Y1.l0 (k+1) y0 y1 y2 y3))∧(∀ y0 y1,LeO (Y1.l1 k y0 y1) (Y1.l1 (k+1) y0 y1))
 | 0=>⟨fun _ _ _ _ r h=>by simp [Y1.l0] at h,fun _ _ r h=>by simp [Y1.l1] at h⟩
 | k+1=>by
  obtain ⟨ih0,ih1⟩:=Y1.mono_l k
  refine ⟨?_,?_⟩
  ·intro y0 y1 y2 y3
   unfold Y1.l0
   have m0:=Y2.mono
   exact zM
  ·intro y0 y1
   unfold Y1.l1
   have m0:=Y2.mono
   exact zM
theorem Y1.mono:∀ a0 k,LeO (Y1.f k a0) (Y1.f (k+1) a0):=by
 intro a0 k
 obtain ⟨ih0,ih1⟩:=Y1.mono_l k
 unfold Y1.f
 have m0:=Y2.mono
 exact zM
theorem Y1.calls (k:Nat) (P0_:Nat→Prop) (u9000_:Value) (l0:List Int) (r:List Int) (w0 w:World) (hB:Below w0.heap.size w0 w) (ho0:Kd.R (Kd.int .i64) 3 w w0.heap.size P0_ u9000_ l0) (h:Y1.f k l0=some r) :
  Calls Tryz.prog 150 #[u9000_] w fun e w'=>∃ v0_:Value,e = .returned (v0_)∧Kd.V (Kd.int .i64) 3 w' w0.heap.size (fun k_=>(P0_ k_∨w.heap.size≤k_)) v0_ r∧Below w0.heap.size w0 w'∧Kept w w' (fun k_=>P0_ k_):=by
 have HO0:=aZ (show Kd.R (Kd.int .i64) 3 w w0.heap.size (fun k_=>(P0_ k_∨w.heap.size≤k_)) u9000_ l0 from Kd.R_mono ho0 (fun k_ hk=>(.inl hk)))
 have HK:=aZ (Kept.refl w (fun k_=>P0_ k_))
 have HW0:=aZ hB.size
 have HB:=aZ hB
 clear hB
 have H:=h
 unfold Y1.f at H
 clear h
 have H':=aZ H
 clear H
 obtain ⟨Ao2,co2,rfl⟩:=Kd.R_slice HO0.out
 go_enter func150,ntmps150
 go_wp2
 go_loopg [3,7] k (fun kq v3 v7 w'=>∃ (x0_1:List Int) (x3_1:Int) (x7_1:Int),v3 = .int .i64 x3_1∧v7 = .int .i64 x7_1∧Aside0 (Y1.l0 kq x0_1 x3_1 (l0.length:Int) x7_1=some r)∧Aside0 (kq≤k)∧Aside0 (Kd.R (Kd.int .i64) 3 w' w0.heap.size (fun k_=>(P0_ k_∨w.heap.size≤k_)) (.slice Ao2 l0.length co2) x0_1)∧Aside0 (Kept w w' (fun k_=>P0_ k_))∧Aside0 (Below w0.heap.size w0 w'))
 case atStart=>exact ⟨(l0),(0),(0),zs,zs,H',⟨Nat.le_refl _⟩,⟨zR HO0⟩,⟨kw⟩,⟨bw⟩⟩
 case round =>
  clear H'
  try clear c1
  obtain ⟨x0_1,x3_1,x7_1,rfl,rfl,HA,HK1,HO_0,HK,HB⟩:=hrel
  have hl0_1:=(Kd.R_reads' HO_0.out).1
  rw [hl0_1] at HO_0
  (try simp only [hl0_1])
  cases gk with
  | zero=>exact absurd HA.out (by simp [Y1.l0])
  | succ k1 =>
   have H:=HA.out
   clear HA
   simp only [Y1.l0] at H
   by_cases c3:x7_1<(l0.length:Int)
   case neg=>
    rw [if_neg c3] at H
    have c3b0:=decide_eq_false c3
    (try (have c3b0_hl0_1:=c3b0;simp only [hl0_1] at c3b0_hl0_1))
    clear c3
    have H':=aZ H
    clear H
    go_wp2
    go_loopg [0,3] k1 (fun kq v0 v3 w'=>∃ (x0_2:List Int) (x3_2:Int),v3 = .int .i64 x3_2∧Aside0 (Y1.l1 kq x0_2 x3_2=some r)∧Aside0 (kq≤k1)∧Aside0 (Kd.R (Kd.int .i64) 3 w' w0.heap.size (fun k_=>(P0_ k_∨w.heap.size≤k_)) v0 x0_2)∧Aside0 (Kept w w' (fun k_=>P0_ k_))∧Aside0 (Below w0.heap.size w0 w'))
    case atStart=>exact ⟨(x0_1),(x3_1),zs,H',⟨Nat.le_refl _⟩,⟨by (try simp only [hl0_1]);(with_reducible repeat (first|apply Kd.R_alloc|apply Kd.R_drewN|apply Kd.R_drew));exact HO_0.out⟩,⟨kw⟩,⟨bw⟩⟩
    case round =>
     clear H'
     try clear c1
     try clear c3
     try clear c3b0
     try clear c4
     try clear c4b0
     try clear q4
     try clear hx4
     try clear c5
     try clear c5b0
     try clear q6
     try clear hx6
     try clear hf6
     try clear c7
     try clear c7b0
     try clear q8
     try clear hx8
     try clear hf8
     try clear hx400_0
     try clear hx402_0
     try clear hx403_0
     try clear hx6_0
     try clear hx8_0
     try clear q400
     try clear q402
     try clear q403
     try clear q6
     try clear q8
     obtain ⟨x0_2,x3_2,rfl,HA,HK2,HO_0,HK,HB⟩:=hrel
     cases gk with
     | zero=>exact absurd HA.out (by simp [Y1.l1])
     | succ k2 =>
      have H:=HA.out
      clear HA
      simp only [Y1.l1] at H
      by_cases c15:x3_2 > 0
      case neg=>
       rw [if_neg c15] at H
       have c15b0:=decide_eq_false c15
       clear c15
       obtain ⟨t408,A18,H⟩:=zB H
       obtain rfl:=Option.some.inj H
       obtain ⟨Ao19,co19,rfl⟩:=Kd.R_slice HO_0.out
       go_wp2_with (first|(refine zg (some 47) func141 #[.slice Ao19 x0_2.length co19] ?_;(with_reducible refine (Y2.calls k2 (fun k_=>some k_=(.slice Ao19 x0_2.length co19:Value).ownBlock) _ _ x0_2 t408 _ ?side1 A18.out).mono ?_);(case side1=>exact Kd.R_V (Kd.R_tight rfl (HO_0.out)));rintro e w20 ⟨v409,rfl,ho0,hb⟩;refine ⟨_,rfl,?_⟩;have HO410:=yL (fun k_=>(P0_ k_∨w.heap.size≤k_)) ho0 (fun k_ hk_=>Or.elim hk_ (fun hs_=>((HO_0.out).1 k_ hs_.symm)) (fun hn_=>(.inr (Nat.le_trans (by first|exact HK.out.1|exact (show Kept w _ (fun k_=>P0_ k_) from kw).1) hn_))));replace HO_0:=yR HO_0 hb;replace HK:=aZ (Kept.below (S:=(fun k_=>P0_ k_)) kw hb);replace HB:=sB hb;clear hb ho0))
       go_ret
       exact ⟨_,ze,zV HO410,bw,kw⟩
      rw [if_pos c15] at H
      have c15b0:=decide_eq_true c15
      clear c15
      by_cases c16:x0_2.length<17592186044416
      case neg=>
       rw [if_neg c16] at H
       cases H
      rw [if_pos c16] at H
      have LMc16:=aZ c16
      clear c16
      obtain ⟨y405,hy405⟩:∃ y_:List Int,y_=(x0_2++[Int.tmod x3_2 10000]):=⟨_,rfl⟩
      replace H:(Y1.l1 k2 y405 (wrap64 (Int.tdiv x3_2 10000)))=some r:=zy hy405 H
      have Ny405:=aZ hy405
      clear hy405
      have H':=aZ H
      clear H
      go_wp2_with (first|((with_reducible refine gate_builtin (b:=.append) (xs:=#[.tmp 41,.tmp 44]) rfl ?_);at_builtin;refine Kd.R_append (Kd.int .i64) (w0:=w0) w0.heap.size rfl (.tmp 41) (.tmp 44) 65 3 (.int .i64 0) 8 rfl underlying65 info3 rfl (by decide) (by omega) u0 x0_2 (Int.tmod x3_2 10000) [.int .i64 (Int.tmod x3_2 10000)] (fun k_=>(P0_ k_∨w.heap.size≤k_)) (fun _=>False) rfl rfl ?aP (fun _ hk=>hk.elim) ?aF ?aO ?aB ?aS ?aL ?_;(case aP=>exact rfl);(case aB=>exact bw);(case aF=>exact (fun k_ hk=>(.inr (Nat.le_trans (by first|exact HK.out.1|exact (show Kept w _ (fun k_=>P0_ k_) from kw).1) hk))));(case aO=>exact (zR HO_0));(case aS=>exact bs);(case aL=>have:=LMc16.out;omega);intro v406 w17 ho hb hg hat;rw [← Ny405.out] at ho;replace HB:=aZ (hb);replace HK:=aZ (Kept.of_grown (S:=(fun k_=>P0_ k_)) hg kw (fun k_ e_=>(HO_0.out.1 k_ e_)));have HO407:=aZ (ho);clear HO_0;clear ho hb hg hat))
      go_roundg k2
      case measure=>have:=HK1.out;have:=HK2.out;omega
      case rel=>exact ⟨(y405),(wrap64 (Int.tdiv x3_2 10000)),zs,H',⟨by have:=HK1.out;have:=HK2.out;omega⟩,⟨by (try simp only [hl0_1]);(with_reducible repeat (first|apply Kd.R_alloc|apply Kd.R_drewN|apply Kd.R_drew));exact HO407.out⟩,⟨kw⟩,⟨bw⟩⟩
   rw [if_pos c3] at H
   have c3b0:=decide_eq_true c3
   (try (have c3b0_hl0_1:=c3b0;simp only [hl0_1] at c3b0_hl0_1))
   clear c3
   by_cases c4:0≤x7_1
   case neg=>
    rw [if_neg c4] at H
    cases H
   rw [if_pos c4] at H
   have c4b0:=decide_eq_true c4
   clear c4
   by_cases c5:x7_1<(x0_1.length:Int)
   case neg=>
    rw [if_neg c5] at H
    cases H
   rw [if_pos c5] at H
   have c5b0:=decide_eq_true c5
   (try (have c5b0_hl0_1:=c5b0;simp only [hl0_1] at c5b0_hl0_1))
   clear c5
   obtain ⟨y401,hy401⟩:∃ y_:List Int,y_=(x0_1.set (x7_1:Int).toNat (Int.tmod (wrap64 (x3_1+(rd x0_1 x7_1))) 10000)):=⟨_,rfl⟩
   replace H:(if (rd y401 x7_1)<0 then (Y1.l0 k1 (y401.set (x7_1:Int).toNat (wrap64 ((rd y401 x7_1)+10000))) (wrap64 ((wrap64 (Int.tdiv (wrap64 (x3_1+(rd x0_1 x7_1))) 10000))-1)) (l0.length:Int) (wrap64 (x7_1+1))) else (Y1.l0 k1 y401 (wrap64 (Int.tdiv (wrap64 (x3_1+(rd x0_1 x7_1))) 10000)) (l0.length:Int) (wrap64 (x7_1+1))))=some r:=zy hy401 H
   have Ny401:=aZ hy401
   clear hy401
   by_cases c7:(rd y401 x7_1)<0
   case neg=>
    rw [if_neg c7] at H
    have c7b0:=decide_eq_false c7
    clear c7
    have H':=aZ H
    clear H
    have p400:0≤(x7_1:Int):=zd
    have q400:x7_1<(x0_1.length:Int):=zd
    obtain ⟨ad400,e400,hx400_0⟩:=Kd.at_int (Kd.R_reads' HO_0.out).2.2 x7_1 p400 q400
    cases e400
    replace p400:=eq_true p400
    replace q400:=eq_true q400
    have p6:0≤(x7_1:Int):=zd
    have q6:(x7_1:Int)<((x0_1.length:Int):Int):=zd
    obtain ⟨go6,co6,eo6,gb6,gl6,cl6,HG6⟩:=Kd.R_form HO_0.out (by omega)
    (first|cases eo6|(injection eo6 with ea_ en_ ec_;(first|subst ea_|(injection ea_ with ea_;subst ea_));subst ec_;clear en_))
    have GB6:=aZ gb6
    have GG6:=aZ HG6
    clear gb6 gl6 HG6
    have HMgo6:=aZ (show (P0_ go6∨w.heap.size≤go6) from (HO_0.out.1 _ rfl))
    (first|simp only [add_plain] at hx400_0|skip)
    obtain ⟨hx6_0,hf6_0⟩:=Kd.R_celln 0 HO_0.out (x7_1:Int) p6 q6
    replace p6:=eq_true p6
    replace q6:=eq_true q6
    have HP13:=Kd.R_putg HO_0.out (x7_1:Int) (Int.tmod (wrap64 (x3_1+(rd x0_1 x7_1))) 10000)
    go_wp2_with (first|((with_reducible refine gate_store (t:=3) (p:=20) rfl ?_);refine store_event (t:=3) (p:=20) (v:=?vo_w14) (w1:=(wr.setCell ⟨go6,(x7_1:Int).toNat,none⟩ (.int .i64 (Int.tmod (wrap64 (x3_1+(rd x0_1 x7_1))) 10000)))) ?hg ?ho ?hn ?hr ?_;(case ho=>rfl);(case hg=>rfl);(case hn=>rfl);(case hr=>first|(go_simp;done)|(go_simp;rfl));intro w14 hw;have hg:wr.grownBy w14 (some go6):=(by rw [hw];exact HP13.2);have hp_:Kd.R (Kd.int .i64) 3 w14 w0.heap.size (fun k_=>(P0_ k_∨w.heap.size≤k_)) (.slice (some ⟨go6,0,none⟩) x0_1.length co2) y401:=(by rw [hw,Ny401.out];exact HP13.1);clear HP13;replace HB:=aZ ((by rw [hw];exact below_set (HB.out) GB6.out:Below w0.heap.size w0 w14));replace HK:=aZ (Kept.of_grown (S:=(fun k_=>P0_ k_)) hg kw (fun k_ e_=>(HO_0.out.1 k_ e_)));replace HO_0:=aZ (hp_);clear hg hw hp_;have p402:0≤(x7_1:Int):=zd;have q402:x7_1<(y401.length:Int):=(by have h_:(x7_1:Int)<((x0_1.length:Int):Int):=zd;first|(have e_:=(Kd.R_reads' HO_0.out).1;omega)|simpa only [Ny401.out,List.length_set] using h_);have ql402:((x7_1:Int)<((x0_1.length:Int):Int))=True:=eq_true (zd);obtain ⟨ad402,e402,hx402_0⟩:=Kd.at_int (Kd.R_reads' HO_0.out).2.2 x7_1 p402 q402;obtain rfl:(⟨go6,0,none⟩:Addr)=ad402:=(by injection e402);(first|simp only [add_plain] at hx402_0|simp only [add_at] at hx402_0|simp only [Addr.add,Nat.zero_add] at hx402_0|skip);replace p402:=eq_true p402;replace q402:=eq_true q402))
    (try simp only [← hl0_1])
    go_roundg k1
    case measure=>have:=HK1.out;omega
    case rel=>exact ⟨(y401),(wrap64 (Int.tdiv (wrap64 (x3_1+(rd x0_1 x7_1))) 10000)),(wrap64 (x7_1+1)),zs,zs,H',⟨by have:=HK1.out;omega⟩,⟨by (try simp only [hl0_1]);(with_reducible repeat (first|apply Kd.R_alloc|apply Kd.R_drewN|apply Kd.R_drew));exact HO_0.out⟩,⟨kw⟩,⟨bw⟩⟩
   rw [if_pos c7] at H
   have c7b0:=decide_eq_true c7
   clear c7
   obtain ⟨y404,hy404⟩:∃ y_:List Int,y_=(y401.set (x7_1:Int).toNat (wrap64 ((rd y401 x7_1)+10000))):=⟨_,rfl⟩
   replace H:(Y1.l0 k1 y404 (wrap64 ((wrap64 (Int.tdiv (wrap64 (x3_1+(rd x0_1 x7_1))) 10000))-1)) (l0.length:Int) (wrap64 (x7_1+1)))=some r:=zy hy404 H
   have Ny404:=aZ hy404
   clear hy404
   have H':=aZ H
   clear H
   have p400:0≤(x7_1:Int):=zd
   have q400:x7_1<(x0_1.length:Int):=zd
   obtain ⟨ad400,e400,hx400_0⟩:=Kd.at_int (Kd.R_reads' HO_0.out).2.2 x7_1 p400 q400
   cases e400
   replace p400:=eq_true p400
   replace q400:=eq_true q400
   have p6:0≤(x7_1:Int):=zd
   have q6:(x7_1:Int)<((x0_1.length:Int):Int):=zd
   obtain ⟨go6,co6,eo6,gb6,gl6,cl6,HG6⟩:=Kd.R_form HO_0.out (by omega)
   (first|cases eo6|(injection eo6 with ea_ en_ ec_;(first|subst ea_|(injection ea_ with ea_;subst ea_));subst ec_;clear en_))
   have GB6:=aZ gb6
   have GG6:=aZ HG6
   clear gb6 gl6 HG6
   have HMgo6:=aZ (show (P0_ go6∨w.heap.size≤go6) from (HO_0.out.1 _ rfl))
   (first|simp only [add_plain] at hx400_0|skip)
   obtain ⟨hx6_0,hf6_0⟩:=Kd.R_celln 0 HO_0.out (x7_1:Int) p6 q6
   replace p6:=eq_true p6
   replace q6:=eq_true q6
   have HP9:=Kd.R_putg HO_0.out (x7_1:Int) (Int.tmod (wrap64 (x3_1+(rd x0_1 x7_1))) 10000)
   go_wp2_with (first|((with_reducible refine gate_store (t:=3) (p:=20) rfl ?_);refine store_event (t:=3) (p:=20) (v:=?vo_w10) (w1:=(wr.setCell ⟨go6,(x7_1:Int).toNat,none⟩ (.int .i64 (Int.tmod (wrap64 (x3_1+(rd x0_1 x7_1))) 10000)))) ?hg ?ho ?hn ?hr ?_;(case ho=>rfl);(case hg=>rfl);(case hn=>rfl);(case hr=>first|(go_simp;done)|(go_simp;rfl));intro w10 hw;have hg:wr.grownBy w10 (some go6):=(by rw [hw];exact HP9.2);have hp_:Kd.R (Kd.int .i64) 3 w10 w0.heap.size (fun k_=>(P0_ k_∨w.heap.size≤k_)) (.slice (some ⟨go6,0,none⟩) x0_1.length co2) y401:=(by rw [hw,Ny401.out];exact HP9.1);clear HP9;replace HB:=aZ ((by rw [hw];exact below_set (HB.out) GB6.out:Below w0.heap.size w0 w10));replace HK:=aZ (Kept.of_grown (S:=(fun k_=>P0_ k_)) hg kw (fun k_ e_=>(HO_0.out.1 k_ e_)));replace HO_0:=aZ (hp_);clear hg hw hp_;have p402:0≤(x7_1:Int):=zd;have q402:x7_1<(y401.length:Int):=(by have h_:(x7_1:Int)<((x0_1.length:Int):Int):=zd;first|(have e_:=(Kd.R_reads' HO_0.out).1;omega)|simpa only [Ny401.out,List.length_set] using h_);have ql402:((x7_1:Int)<((x0_1.length:Int):Int))=True:=eq_true (zd);obtain ⟨ad402,e402,hx402_0⟩:=Kd.at_int (Kd.R_reads' HO_0.out).2.2 x7_1 p402 q402;obtain rfl:(⟨go6,0,none⟩:Addr)=ad402:=(by injection e402);(first|simp only [add_plain] at hx402_0|simp only [add_at] at hx402_0|simp only [Addr.add,Nat.zero_add] at hx402_0|skip);replace p402:=eq_true p402;replace q402:=eq_true q402;have p403:0≤(x7_1:Int):=zd;have q403:x7_1<(y401.length:Int):=(by have h_:(x7_1:Int)<((x0_1.length:Int):Int):=zd;first|(have e_:=(Kd.R_reads' HO_0.out).1;omega)|simpa only [Ny401.out,List.length_set] using h_);have ql403:((x7_1:Int)<((x0_1.length:Int):Int))=True:=eq_true (zd);obtain ⟨ad403,e403,hx403_0⟩:=Kd.at_int (Kd.R_reads' HO_0.out).2.2 x7_1 p403 q403;obtain rfl:(⟨go6,0,none⟩:Addr)=ad403:=(by injection e403);(first|simp only [add_plain] at hx403_0|simp only [add_at] at hx403_0|simp only [Addr.add,Nat.zero_add] at hx403_0|skip);replace p403:=eq_true p403;replace q403:=eq_true q403;have p8:0≤(x7_1:Int):=zd;have q8:(x7_1:Int)<((x0_1.length:Int):Int):=zd;obtain ⟨hx8_0,hf8_0⟩:=Kd.R_celln 0 HO_0.out (x7_1:Int) p8 q8;replace p8:=eq_true p8;replace q8:=eq_true q8;obtain ⟨hy11_,hz11_⟩:=Kd.R_celln 0 HO_0.out (x7_1:Int) (zd) (zd);have HP11:=Kd.R_putg HO_0.out (x7_1:Int) (wrap64 ((rd y401 x7_1)+10000)))|((with_reducible refine gate_store (t:=3) (p:=33) rfl ?_);refine store_event (t:=3) (p:=33) (v:=?vo_w12) (w1:=(w10.setCell ⟨go6,(x7_1:Int).toNat,none⟩ (.int .i64 (wrap64 ((rd y401 x7_1)+10000))))) ?hg ?ho ?hn ?hr ?_;(case ho=>rfl);(case hg=>rfl);(case hn=>rfl);(case hr=>first|(go_simp;done)|(go_simp;rfl));intro w12 hw;have hg:w10.grownBy w12 (some go6):=(by rw [hw];exact HP11.2);have hp_:Kd.R (Kd.int .i64) 3 w12 w0.heap.size (fun k_=>(P0_ k_∨w.heap.size≤k_)) (.slice (some ⟨go6,0,none⟩) x0_1.length co2) y404:=(by rw [hw,Ny404.out];exact HP11.1);clear HP11;replace HB:=aZ ((by rw [hw];exact below_set (HB.out) GB6.out:Below w0.heap.size w0 w12));replace HK:=aZ (Kept.of_grown (S:=(fun k_=>P0_ k_)) hg kw (fun k_ e_=>(HO_0.out.1 k_ e_)));replace HO_0:=aZ (hp_);clear hg hw hp_))
   (try simp only [← hl0_1])
   go_roundg k1
   case measure=>have:=HK1.out;omega
   case rel=>exact ⟨(y404),(wrap64 ((wrap64 (Int.tdiv (wrap64 (x3_1+(rd x0_1 x7_1))) 10000))-1)),(wrap64 (x7_1+1)),zs,zs,H',⟨by have:=HK1.out;omega⟩,⟨by (try simp only [hl0_1]);(with_reducible repeat (first|apply Kd.R_alloc|apply Kd.R_drewN|apply Kd.R_drew));exact HO_0.out⟩,⟨kw⟩,⟨bw⟩⟩
end Go.Proofs.YtaffkbemjbfajaaGreatDoor.PNumReads
