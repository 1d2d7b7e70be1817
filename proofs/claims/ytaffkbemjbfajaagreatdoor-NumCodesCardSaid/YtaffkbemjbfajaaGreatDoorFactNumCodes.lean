/-
  Closed facts, by the kernel, that the row of weftworks/weftlaw1.NumCodes and its card ask of the program. No condition.
-/
import Derived.Test.YtaffkbemjbfajaaGreatDoorCards
import Derived.JoinedOf
namespace Go.Proofs.YtaffkbemjbfajaaGreatDoor.numCodes
open Go
theorem jm {a b : Bool} (h : a = true) (k : b = true) : (a && b) = true := by rw [h, k]; rfl
theorem jl {a b : Bool} (h : (a && b) = true) : a = true := by cases a <;> simp_all
theorem jr {a b : Bool} (h : (a && b) = true) : b = true := by cases a <;> simp_all
set_option maxRecDepth 100000
theorem g0 : ((Rows.numCodesRow.wf (OpenSpec.ofChange Rows.numCodesSpec)) && (laidOutB Tryz.pinned.checked.prog) && (mapsRowed Tryz.pinned.checked.prog) && (Tryz.f7.params.all (Tryz.pinned.checked.prog.readableRec ·)) && (namedTie Tryz.pinned.checked.prog Rows.numCodesRow.named Rows.numCodesSpec.vars) && (Rows.numCodesRow.stops == []) && (Tryz.pinned.checked.prog.stops == []) && (Rows.numCodesRow.knobs == []) && (Tryz.pinned.checked.prog.stopKnobs == [])) = true := by kernel_rfl
theorem c1 : (Rows.numCodesRow.wf (OpenSpec.ofChange Rows.numCodesSpec)) = true := (jl (jl (jl (jl (jl (jl (jl (jl g0))))))))
theorem c2 : (laidOutB Tryz.pinned.checked.prog) = true := (jr (jl (jl (jl (jl (jl (jl (jl g0))))))))
theorem c3 : (mapsRowed Tryz.pinned.checked.prog) = true := (jr (jl (jl (jl (jl (jl (jl g0)))))))
theorem c4 : (Tryz.f7.params.all (Tryz.pinned.checked.prog.readableRec ·)) = true := (jr (jl (jl (jl (jl (jl g0))))))
theorem c5 : (namedTie Tryz.pinned.checked.prog Rows.numCodesRow.named Rows.numCodesSpec.vars) = true := (jr (jl (jl (jl (jl g0)))))
theorem c6 : (Rows.numCodesRow.stops == []) = true := (jr (jl (jl (jl g0))))
theorem c7 : (Tryz.pinned.checked.prog.stops == []) = true := (jr (jl (jl g0)))
theorem c8 : (Rows.numCodesRow.knobs == []) = true := (jr (jl g0))
theorem c9 : (Tryz.pinned.checked.prog.stopKnobs == []) = true := (jr g0)
theorem c10 : (Rows.numCodesRow.inPlace == Tryz.pinned.checked.prog.inPlace 7) = true := by kernel_rfl
theorem c11 : (Rows.numCodesRow.unfollowed == Tryz.pinned.checked.prog.unfollowed 7) = true := by kernel_rfl
theorem c12 : (Rows.numCodesRow.recurses == Tryz.pinned.checked.prog.recurses 7) = true := by kernel_rfl
theorem c13 : (Rows.numCodesRow.named == Tryz.pinned.checked.prog.varsNamed 7) = true := by kernel_rfl
theorem g13 : ((Rows.numCodesRow.maps == (Tryz.f7.params.toList ++ Rows.numCodesSpec.plain.varTypes Tryz.pinned.checked.prog).any (Tryz.pinned.checked.prog.mapsRec ·)) && (Rows.numCodesRow.ifaces == (Tryz.f7.params.toList ++ Rows.numCodesSpec.plain.varTypes Tryz.pinned.checked.prog).any (Tryz.pinned.checked.prog.ifacesRec ·)) && (Rows.numCodesRow.mapsOut == Tryz.pinned.checked.prog.mapsAmong Tryz.f7.resultTypes.toList) && (Rows.numCodesRow.loops == (Tryz.f7.params.toList ++ Rows.numCodesSpec.plain.varTypes Tryz.pinned.checked.prog).any (Tryz.pinned.checked.prog.loopsFrom ·)) && (Rows.numCodesRow.wideKeys == (Tryz.f7.params.toList ++ Rows.numCodesSpec.plain.varTypes Tryz.pinned.checked.prog ++ Tryz.f7.resultTypes.toList).any (Tryz.pinned.checked.prog.wideKeysFrom ·)) && (Rows.numCodesSpec.vars.all (Tryz.pinned.checked.prog.varReadable ·)) && (Tryz.f7.resultTypes.all (fun t => Tryz.pinned.checked.prog.readableRec t && decide (t < Tryz.pinned.checked.prog.types.size))) && (Rows.numCodesRow.ifacesOut == Tryz.f7.resultTypes.toList.any (Tryz.pinned.checked.prog.ifacesRec ·)) && (Rows.numCodesRow.loopsOut == Tryz.f7.resultTypes.toList.any (Tryz.pinned.checked.prog.loopsFrom ·)) && (Rows.numCodesRow.plainKeys == Tryz.pinned.checked.prog.plainKeys) && (Rows.numCodesRow.shortTexts.isNone) && (Tryz.pinned.checked.prog.stopsHeard) && (Tryz.pinned.checked.prog.mayEnter) && (Rows.numCodesRow.lifted == Tryz.pinned.checked.prog.liftsFinal) && (Tryz.pinned.checked.prog.make == some Rows.numCodesRow.make) && (Rows.numCodesRow.kinds == (if Rows.numCodesRow.domain.isEmpty = true then [] else Tryz.f7.params.toList.map (fun t => match Tryz.pinned.checked.prog.underlying t with | some (.int k) => some k | _ => none))) && (Rows.numCodesRow.pinned == Rows.numCodesRow.pinnedBy) && (Rows.numCodesRow.veiled == (Tryz.f7.params.toList ++ Rows.numCodesSpec.plain.varTypes Tryz.pinned.checked.prog ++ Tryz.f7.resultTypes.toList).any (Tryz.pinned.checked.prog.veiledRec ·)) && (Rows.numCodesRow.veiledFits Tryz.pinned.checked.prog Tryz.f7.params.toList (Tryz.f7.params.toList ++ Rows.numCodesSpec.plain.varTypes Tryz.pinned.checked.prog ++ Tryz.f7.resultTypes.toList))) = true := by kernel_rfl
theorem c14 : (Rows.numCodesRow.maps == (Tryz.f7.params.toList ++ Rows.numCodesSpec.plain.varTypes Tryz.pinned.checked.prog).any (Tryz.pinned.checked.prog.mapsRec ·)) = true := (jl (jl (jl (jl (jl (jl (jl (jl (jl (jl (jl (jl (jl (jl (jl (jl (jl (jl g13))))))))))))))))))
theorem c15 : (Rows.numCodesRow.ifaces == (Tryz.f7.params.toList ++ Rows.numCodesSpec.plain.varTypes Tryz.pinned.checked.prog).any (Tryz.pinned.checked.prog.ifacesRec ·)) = true := (jr (jl (jl (jl (jl (jl (jl (jl (jl (jl (jl (jl (jl (jl (jl (jl (jl (jl g13))))))))))))))))))
theorem c16 : (Rows.numCodesRow.mapsOut == Tryz.pinned.checked.prog.mapsAmong Tryz.f7.resultTypes.toList) = true := (jr (jl (jl (jl (jl (jl (jl (jl (jl (jl (jl (jl (jl (jl (jl (jl (jl g13)))))))))))))))))
theorem c17 : (Rows.numCodesRow.loops == (Tryz.f7.params.toList ++ Rows.numCodesSpec.plain.varTypes Tryz.pinned.checked.prog).any (Tryz.pinned.checked.prog.loopsFrom ·)) = true := (jr (jl (jl (jl (jl (jl (jl (jl (jl (jl (jl (jl (jl (jl (jl (jl g13))))))))))))))))
theorem c18 : (Rows.numCodesRow.wideKeys == (Tryz.f7.params.toList ++ Rows.numCodesSpec.plain.varTypes Tryz.pinned.checked.prog ++ Tryz.f7.resultTypes.toList).any (Tryz.pinned.checked.prog.wideKeysFrom ·)) = true := (jr (jl (jl (jl (jl (jl (jl (jl (jl (jl (jl (jl (jl (jl (jl g13)))))))))))))))
theorem c19 : (Rows.numCodesSpec.vars.all (Tryz.pinned.checked.prog.varReadable ·)) = true := (jr (jl (jl (jl (jl (jl (jl (jl (jl (jl (jl (jl (jl (jl g13))))))))))))))
theorem c20 : (Tryz.f7.resultTypes.all (fun t => Tryz.pinned.checked.prog.readableRec t && decide (t < Tryz.pinned.checked.prog.types.size))) = true := (jr (jl (jl (jl (jl (jl (jl (jl (jl (jl (jl (jl (jl g13)))))))))))))
theorem c21 : (Rows.numCodesRow.ifacesOut == Tryz.f7.resultTypes.toList.any (Tryz.pinned.checked.prog.ifacesRec ·)) = true := (jr (jl (jl (jl (jl (jl (jl (jl (jl (jl (jl (jl g13))))))))))))
theorem c22 : (Rows.numCodesRow.loopsOut == Tryz.f7.resultTypes.toList.any (Tryz.pinned.checked.prog.loopsFrom ·)) = true := (jr (jl (jl (jl (jl (jl (jl (jl (jl (jl (jl g13)))))))))))
theorem c23 : (Rows.numCodesRow.plainKeys == Tryz.pinned.checked.prog.plainKeys) = true := (jr (jl (jl (jl (jl (jl (jl (jl (jl (jl g13))))))))))
theorem c24 : (Rows.numCodesRow.shortTexts.isNone) = true := (jr (jl (jl (jl (jl (jl (jl (jl (jl g13)))))))))
theorem c25 : (Tryz.pinned.checked.prog.stopsHeard) = true := (jr (jl (jl (jl (jl (jl (jl (jl g13))))))))
theorem c26 : (Tryz.pinned.checked.prog.mayEnter) = true := (jr (jl (jl (jl (jl (jl (jl g13)))))))
theorem c27 : (Rows.numCodesRow.lifted == Tryz.pinned.checked.prog.liftsFinal) = true := (jr (jl (jl (jl (jl (jl g13))))))
theorem c28 : (Tryz.pinned.checked.prog.make == some Rows.numCodesRow.make) = true := (jr (jl (jl (jl (jl g13)))))
theorem c29 : (Rows.numCodesRow.kinds == (if Rows.numCodesRow.domain.isEmpty = true then [] else Tryz.f7.params.toList.map (fun t => match Tryz.pinned.checked.prog.underlying t with | some (.int k) => some k | _ => none))) = true := (jr (jl (jl (jl g13))))
theorem c30 : (Rows.numCodesRow.pinned == Rows.numCodesRow.pinnedBy) = true := (jr (jl (jl g13)))
theorem c31 : (Rows.numCodesRow.veiled == (Tryz.f7.params.toList ++ Rows.numCodesSpec.plain.varTypes Tryz.pinned.checked.prog ++ Tryz.f7.resultTypes.toList).any (Tryz.pinned.checked.prog.veiledRec ·)) = true := (jr (jl g13))
theorem c32 : (Rows.numCodesRow.veiledFits Tryz.pinned.checked.prog Tryz.f7.params.toList (Tryz.f7.params.toList ++ Rows.numCodesSpec.plain.varTypes Tryz.pinned.checked.prog ++ Tryz.f7.resultTypes.toList)) = true := (jr g13)
theorem f_closed : joinedFacts Tryz.pinned.checked.prog 7 Tryz.f7 Rows.numCodesSpec Rows.numCodesRow = true := (jm (jm (jm (jm (jm (jm (jm (jm (jm (jm (jm (jm (jm (jm (jm (jm (jm (jm (jm (jm (jm (jm (jm (jm (jm (jm (jm (jm (jm (jm (jm c1 c2) c3) c4) c5) c6) c7) c8) c9) c10) c11) c12) c13) c14) c15) c16) c17) c18) c19) c20) c21) c22) c23) c24) c25) c26) c27) c28) c29) c30) c31) c32)
theorem gk : ((decide (Tryz.pinned.checked.prog.funcNamed Rows.numCodesRow.func = some 7)) && (decide (Tryz.f7.isInstance Tryz.pinned.checked.prog Rows.numCodesRow.origin Rows.numCodesRow.targs)) && (Rows.numCodesRow.wfByText (OpenSpec.ofChange Rows.numCodesSpec)) && (decide (Tryz.pinned.checked.prog.mainIs = some (true, ((true, "9dae0d3afb29ebe565f15e9a2cea56c6586652e445151b15effdd894d882d3cf")).2.toList))) && (true == Tryz.pinned.checked.prog.looks []) && (false == Rows.numCodesRow.goesBy Tryz.pinned.checked.prog) && ([36].all fun u => !Tryz.pinned.checked.prog.wantsStandIn u)) = true := by kernel_rfl
theorem k_named : (decide (Tryz.pinned.checked.prog.funcNamed Rows.numCodesRow.func = some 7)) = true := (jl (jl (jl (jl (jl (jl gk))))))
theorem k_inst : (decide (Tryz.f7.isInstance Tryz.pinned.checked.prog Rows.numCodesRow.origin Rows.numCodesRow.targs)) = true := (jr (jl (jl (jl (jl (jl gk))))))
theorem k_wf : (Rows.numCodesRow.wfByText (OpenSpec.ofChange Rows.numCodesSpec)) = true := (jr (jl (jl (jl (jl gk)))))
theorem k_main0 : (decide (Tryz.pinned.checked.prog.mainIs = some (true, ((true, "9dae0d3afb29ebe565f15e9a2cea56c6586652e445151b15effdd894d882d3cf")).2.toList))) = true := (jr (jl (jl (jl gk))))
theorem k_looks0 : (true == Tryz.pinned.checked.prog.looks []) = true := (jr (jl (jl gk)))
theorem k_goes0 : (false == Rows.numCodesRow.goesBy Tryz.pinned.checked.prog) = true := (jr (jl gk))
theorem k_want : ([36].all fun u => !Tryz.pinned.checked.prog.wantsStandIn u) = true := (jr gk)
theorem f_named : Tryz.pinned.checked.prog.funcNamed Rows.numCodesRow.func = some 7 := of_decide_eq_true k_named
theorem f_inst : Tryz.f7.isInstance Tryz.pinned.checked.prog Rows.numCodesRow.origin Rows.numCodesRow.targs := of_decide_eq_true k_inst
theorem k_main : Tryz.pinned.checked.prog.mainIs = some (true, ((true, "9dae0d3afb29ebe565f15e9a2cea56c6586652e445151b15effdd894d882d3cf")).2.toList) := of_decide_eq_true k_main0
theorem k_looks : true = Tryz.pinned.checked.prog.looks [] := eq_of_beq k_looks0
theorem k_goes : false = Rows.numCodesRow.goesBy Tryz.pinned.checked.prog := eq_of_beq k_goes0
theorem f_wrap : Tryz.f7.isWrapper Tryz.pinned.checked.prog Rows.numCodesRow.wrapper Rows.numCodesRow.mainSum := by unfold Func.isWrapper; first | (rw [if_pos (by decide +kernel)]; kernel_rfl) | (rw [if_neg (by decide +kernel)]; exact ⟨rfl, rfl⟩)
end Go.Proofs.YtaffkbemjbfajaaGreatDoor.numCodes
