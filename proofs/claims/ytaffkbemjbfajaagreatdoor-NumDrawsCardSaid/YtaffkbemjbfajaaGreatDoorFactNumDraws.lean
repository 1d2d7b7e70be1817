/-
  Closed facts, by the kernel, that the row of weftworks/weftlaw1.NumDraws and its card ask of the program. No condition.
-/
import Derived.Test.YtaffkbemjbfajaaGreatDoorCards
import Derived.JoinedOf
namespace Go.Proofs.YtaffkbemjbfajaaGreatDoor.numDraws
open Go
theorem jm {a b : Bool} (h : a = true) (k : b = true) : (a && b) = true := by rw [h, k]; rfl
theorem jl {a b : Bool} (h : (a && b) = true) : a = true := by cases a <;> simp_all
theorem jr {a b : Bool} (h : (a && b) = true) : b = true := by cases a <;> simp_all
set_option maxRecDepth 100000
theorem g0 : ((Rows.numDrawsRow.wf (OpenSpec.ofChange Rows.numDrawsSpec)) && (laidOutB Tryz.pinned.checked.prog) && (mapsRowed Tryz.pinned.checked.prog) && (Tryz.f4.params.all (Tryz.pinned.checked.prog.readableRec ·)) && (namedTie Tryz.pinned.checked.prog Rows.numDrawsRow.named Rows.numDrawsSpec.vars) && (Rows.numDrawsRow.stops == []) && (Tryz.pinned.checked.prog.stops == []) && (Rows.numDrawsRow.knobs == []) && (Tryz.pinned.checked.prog.stopKnobs == [])) = true := by kernel_rfl
theorem c1 : (Rows.numDrawsRow.wf (OpenSpec.ofChange Rows.numDrawsSpec)) = true := (jl (jl (jl (jl (jl (jl (jl (jl g0))))))))
theorem c2 : (laidOutB Tryz.pinned.checked.prog) = true := (jr (jl (jl (jl (jl (jl (jl (jl g0))))))))
theorem c3 : (mapsRowed Tryz.pinned.checked.prog) = true := (jr (jl (jl (jl (jl (jl (jl g0)))))))
theorem c4 : (Tryz.f4.params.all (Tryz.pinned.checked.prog.readableRec ·)) = true := (jr (jl (jl (jl (jl (jl g0))))))
theorem c5 : (namedTie Tryz.pinned.checked.prog Rows.numDrawsRow.named Rows.numDrawsSpec.vars) = true := (jr (jl (jl (jl (jl g0)))))
theorem c6 : (Rows.numDrawsRow.stops == []) = true := (jr (jl (jl (jl g0))))
theorem c7 : (Tryz.pinned.checked.prog.stops == []) = true := (jr (jl (jl g0)))
theorem c8 : (Rows.numDrawsRow.knobs == []) = true := (jr (jl g0))
theorem c9 : (Tryz.pinned.checked.prog.stopKnobs == []) = true := (jr g0)
theorem c10 : (Rows.numDrawsRow.inPlace == Tryz.pinned.checked.prog.inPlace 4) = true := by kernel_rfl
theorem c11 : (Rows.numDrawsRow.unfollowed == Tryz.pinned.checked.prog.unfollowed 4) = true := by kernel_rfl
theorem c12 : (Rows.numDrawsRow.recurses == Tryz.pinned.checked.prog.recurses 4) = true := by kernel_rfl
theorem c13 : (Rows.numDrawsRow.named == Tryz.pinned.checked.prog.varsNamed 4) = true := by kernel_rfl
theorem g13 : ((Rows.numDrawsRow.maps == (Tryz.f4.params.toList ++ Rows.numDrawsSpec.plain.varTypes Tryz.pinned.checked.prog).any (Tryz.pinned.checked.prog.mapsRec ·)) && (Rows.numDrawsRow.ifaces == (Tryz.f4.params.toList ++ Rows.numDrawsSpec.plain.varTypes Tryz.pinned.checked.prog).any (Tryz.pinned.checked.prog.ifacesRec ·)) && (Rows.numDrawsRow.mapsOut == Tryz.pinned.checked.prog.mapsAmong Tryz.f4.resultTypes.toList) && (Rows.numDrawsRow.loops == (Tryz.f4.params.toList ++ Rows.numDrawsSpec.plain.varTypes Tryz.pinned.checked.prog).any (Tryz.pinned.checked.prog.loopsFrom ·)) && (Rows.numDrawsRow.wideKeys == (Tryz.f4.params.toList ++ Rows.numDrawsSpec.plain.varTypes Tryz.pinned.checked.prog ++ Tryz.f4.resultTypes.toList).any (Tryz.pinned.checked.prog.wideKeysFrom ·)) && (Rows.numDrawsSpec.vars.all (Tryz.pinned.checked.prog.varReadable ·)) && (Tryz.f4.resultTypes.all (fun t => Tryz.pinned.checked.prog.readableRec t && decide (t < Tryz.pinned.checked.prog.types.size))) && (Rows.numDrawsRow.ifacesOut == Tryz.f4.resultTypes.toList.any (Tryz.pinned.checked.prog.ifacesRec ·)) && (Rows.numDrawsRow.loopsOut == Tryz.f4.resultTypes.toList.any (Tryz.pinned.checked.prog.loopsFrom ·)) && (Rows.numDrawsRow.plainKeys == Tryz.pinned.checked.prog.plainKeys) && (Rows.numDrawsRow.shortTexts.isNone) && (Tryz.pinned.checked.prog.stopsHeard) && (Tryz.pinned.checked.prog.mayEnter) && (Rows.numDrawsRow.lifted == Tryz.pinned.checked.prog.liftsFinal) && (Tryz.pinned.checked.prog.make == some Rows.numDrawsRow.make) && (Rows.numDrawsRow.kinds == (if Rows.numDrawsRow.domain.isEmpty = true then [] else Tryz.f4.params.toList.map (fun t => match Tryz.pinned.checked.prog.underlying t with | some (.int k) => some k | _ => none))) && (Rows.numDrawsRow.pinned == Rows.numDrawsRow.pinnedBy) && (Rows.numDrawsRow.veiled == (Tryz.f4.params.toList ++ Rows.numDrawsSpec.plain.varTypes Tryz.pinned.checked.prog ++ Tryz.f4.resultTypes.toList).any (Tryz.pinned.checked.prog.veiledRec ·)) && (Rows.numDrawsRow.veiledFits Tryz.pinned.checked.prog Tryz.f4.params.toList (Tryz.f4.params.toList ++ Rows.numDrawsSpec.plain.varTypes Tryz.pinned.checked.prog ++ Tryz.f4.resultTypes.toList))) = true := by kernel_rfl
theorem c14 : (Rows.numDrawsRow.maps == (Tryz.f4.params.toList ++ Rows.numDrawsSpec.plain.varTypes Tryz.pinned.checked.prog).any (Tryz.pinned.checked.prog.mapsRec ·)) = true := (jl (jl (jl (jl (jl (jl (jl (jl (jl (jl (jl (jl (jl (jl (jl (jl (jl (jl g13))))))))))))))))))
theorem c15 : (Rows.numDrawsRow.ifaces == (Tryz.f4.params.toList ++ Rows.numDrawsSpec.plain.varTypes Tryz.pinned.checked.prog).any (Tryz.pinned.checked.prog.ifacesRec ·)) = true := (jr (jl (jl (jl (jl (jl (jl (jl (jl (jl (jl (jl (jl (jl (jl (jl (jl (jl g13))))))))))))))))))
theorem c16 : (Rows.numDrawsRow.mapsOut == Tryz.pinned.checked.prog.mapsAmong Tryz.f4.resultTypes.toList) = true := (jr (jl (jl (jl (jl (jl (jl (jl (jl (jl (jl (jl (jl (jl (jl (jl (jl g13)))))))))))))))))
theorem c17 : (Rows.numDrawsRow.loops == (Tryz.f4.params.toList ++ Rows.numDrawsSpec.plain.varTypes Tryz.pinned.checked.prog).any (Tryz.pinned.checked.prog.loopsFrom ·)) = true := (jr (jl (jl (jl (jl (jl (jl (jl (jl (jl (jl (jl (jl (jl (jl (jl g13))))))))))))))))
theorem c18 : (Rows.numDrawsRow.wideKeys == (Tryz.f4.params.toList ++ Rows.numDrawsSpec.plain.varTypes Tryz.pinned.checked.prog ++ Tryz.f4.resultTypes.toList).any (Tryz.pinned.checked.prog.wideKeysFrom ·)) = true := (jr (jl (jl (jl (jl (jl (jl (jl (jl (jl (jl (jl (jl (jl (jl g13)))))))))))))))
theorem c19 : (Rows.numDrawsSpec.vars.all (Tryz.pinned.checked.prog.varReadable ·)) = true := (jr (jl (jl (jl (jl (jl (jl (jl (jl (jl (jl (jl (jl (jl g13))))))))))))))
theorem c20 : (Tryz.f4.resultTypes.all (fun t => Tryz.pinned.checked.prog.readableRec t && decide (t < Tryz.pinned.checked.prog.types.size))) = true := (jr (jl (jl (jl (jl (jl (jl (jl (jl (jl (jl (jl (jl g13)))))))))))))
theorem c21 : (Rows.numDrawsRow.ifacesOut == Tryz.f4.resultTypes.toList.any (Tryz.pinned.checked.prog.ifacesRec ·)) = true := (jr (jl (jl (jl (jl (jl (jl (jl (jl (jl (jl (jl g13))))))))))))
theorem c22 : (Rows.numDrawsRow.loopsOut == Tryz.f4.resultTypes.toList.any (Tryz.pinned.checked.prog.loopsFrom ·)) = true := (jr (jl (jl (jl (jl (jl (jl (jl (jl (jl (jl g13)))))))))))
theorem c23 : (Rows.numDrawsRow.plainKeys == Tryz.pinned.checked.prog.plainKeys) = true := (jr (jl (jl (jl (jl (jl (jl (jl (jl (jl g13))))))))))
theorem c24 : (Rows.numDrawsRow.shortTexts.isNone) = true := (jr (jl (jl (jl (jl (jl (jl (jl (jl g13)))))))))
theorem c25 : (Tryz.pinned.checked.prog.stopsHeard) = true := (jr (jl (jl (jl (jl (jl (jl (jl g13))))))))
theorem c26 : (Tryz.pinned.checked.prog.mayEnter) = true := (jr (jl (jl (jl (jl (jl (jl g13)))))))
theorem c27 : (Rows.numDrawsRow.lifted == Tryz.pinned.checked.prog.liftsFinal) = true := (jr (jl (jl (jl (jl (jl g13))))))
theorem c28 : (Tryz.pinned.checked.prog.make == some Rows.numDrawsRow.make) = true := (jr (jl (jl (jl (jl g13)))))
theorem c29 : (Rows.numDrawsRow.kinds == (if Rows.numDrawsRow.domain.isEmpty = true then [] else Tryz.f4.params.toList.map (fun t => match Tryz.pinned.checked.prog.underlying t with | some (.int k) => some k | _ => none))) = true := (jr (jl (jl (jl g13))))
theorem c30 : (Rows.numDrawsRow.pinned == Rows.numDrawsRow.pinnedBy) = true := (jr (jl (jl g13)))
theorem c31 : (Rows.numDrawsRow.veiled == (Tryz.f4.params.toList ++ Rows.numDrawsSpec.plain.varTypes Tryz.pinned.checked.prog ++ Tryz.f4.resultTypes.toList).any (Tryz.pinned.checked.prog.veiledRec ·)) = true := (jr (jl g13))
theorem c32 : (Rows.numDrawsRow.veiledFits Tryz.pinned.checked.prog Tryz.f4.params.toList (Tryz.f4.params.toList ++ Rows.numDrawsSpec.plain.varTypes Tryz.pinned.checked.prog ++ Tryz.f4.resultTypes.toList)) = true := (jr g13)
theorem f_closed : joinedFacts Tryz.pinned.checked.prog 4 Tryz.f4 Rows.numDrawsSpec Rows.numDrawsRow = true := (jm (jm (jm (jm (jm (jm (jm (jm (jm (jm (jm (jm (jm (jm (jm (jm (jm (jm (jm (jm (jm (jm (jm (jm (jm (jm (jm (jm (jm (jm (jm c1 c2) c3) c4) c5) c6) c7) c8) c9) c10) c11) c12) c13) c14) c15) c16) c17) c18) c19) c20) c21) c22) c23) c24) c25) c26) c27) c28) c29) c30) c31) c32)
theorem gk : ((decide (Tryz.pinned.checked.prog.funcNamed Rows.numDrawsRow.func = some 4)) && (decide (Tryz.f4.isInstance Tryz.pinned.checked.prog Rows.numDrawsRow.origin Rows.numDrawsRow.targs)) && (Rows.numDrawsRow.wfByText (OpenSpec.ofChange Rows.numDrawsSpec)) && (decide (Tryz.pinned.checked.prog.mainIs = some (true, ((true, "9dae0d3afb29ebe565f15e9a2cea56c6586652e445151b15effdd894d882d3cf")).2.toList))) && (true == Tryz.pinned.checked.prog.looks []) && (false == Rows.numDrawsRow.goesBy Tryz.pinned.checked.prog) && ([3, 3, 3].all fun u => !Tryz.pinned.checked.prog.wantsStandIn u)) = true := by kernel_rfl
theorem k_named : (decide (Tryz.pinned.checked.prog.funcNamed Rows.numDrawsRow.func = some 4)) = true := (jl (jl (jl (jl (jl (jl gk))))))
theorem k_inst : (decide (Tryz.f4.isInstance Tryz.pinned.checked.prog Rows.numDrawsRow.origin Rows.numDrawsRow.targs)) = true := (jr (jl (jl (jl (jl (jl gk))))))
theorem k_wf : (Rows.numDrawsRow.wfByText (OpenSpec.ofChange Rows.numDrawsSpec)) = true := (jr (jl (jl (jl (jl gk)))))
theorem k_main0 : (decide (Tryz.pinned.checked.prog.mainIs = some (true, ((true, "9dae0d3afb29ebe565f15e9a2cea56c6586652e445151b15effdd894d882d3cf")).2.toList))) = true := (jr (jl (jl (jl gk))))
theorem k_looks0 : (true == Tryz.pinned.checked.prog.looks []) = true := (jr (jl (jl gk)))
theorem k_goes0 : (false == Rows.numDrawsRow.goesBy Tryz.pinned.checked.prog) = true := (jr (jl gk))
theorem k_want : ([3, 3, 3].all fun u => !Tryz.pinned.checked.prog.wantsStandIn u) = true := (jr gk)
theorem f_named : Tryz.pinned.checked.prog.funcNamed Rows.numDrawsRow.func = some 4 := of_decide_eq_true k_named
theorem f_inst : Tryz.f4.isInstance Tryz.pinned.checked.prog Rows.numDrawsRow.origin Rows.numDrawsRow.targs := of_decide_eq_true k_inst
theorem k_main : Tryz.pinned.checked.prog.mainIs = some (true, ((true, "9dae0d3afb29ebe565f15e9a2cea56c6586652e445151b15effdd894d882d3cf")).2.toList) := of_decide_eq_true k_main0
theorem k_looks : true = Tryz.pinned.checked.prog.looks [] := eq_of_beq k_looks0
theorem k_goes : false = Rows.numDrawsRow.goesBy Tryz.pinned.checked.prog := eq_of_beq k_goes0
theorem f_wrap : Tryz.f4.isWrapper Tryz.pinned.checked.prog Rows.numDrawsRow.wrapper Rows.numDrawsRow.mainSum := by unfold Func.isWrapper; first | (rw [if_pos (by decide +kernel)]; kernel_rfl) | (rw [if_neg (by decide +kernel)]; exact ⟨rfl, rfl⟩)
end Go.Proofs.YtaffkbemjbfajaaGreatDoor.numDraws
