/-
  Closed facts, by the kernel, that the row of weftworks/weftlaw1.ModelMakes and its card ask of the program. No condition.
-/
import Derived.Test.YtcoecbpeilmdmaaGreatDoorCards
import Derived.JoinedOf
namespace Go.Proofs.YtcoecbpeilmdmaaGreatDoor.modelMakes
open Go
theorem jm {a b : Bool} (h : a = true) (k : b = true) : (a && b) = true := by rw [h, k]; rfl
theorem jl {a b : Bool} (h : (a && b) = true) : a = true := by cases a <;> simp_all
theorem jr {a b : Bool} (h : (a && b) = true) : b = true := by cases a <;> simp_all
set_option maxRecDepth 100000
theorem g0 : ((Rows.modelMakesRow.wf (OpenSpec.ofChange Rows.modelMakesSpec)) && (laidOutB Tryz.pinned.checked.prog) && (mapsRowed Tryz.pinned.checked.prog) && (Tryz.f3.params.all (Tryz.pinned.checked.prog.readableRec ·)) && (namedTie Tryz.pinned.checked.prog Rows.modelMakesRow.named Rows.modelMakesSpec.vars) && (Rows.modelMakesRow.stops == []) && (Tryz.pinned.checked.prog.stops == []) && (Rows.modelMakesRow.knobs == []) && (Tryz.pinned.checked.prog.stopKnobs == [])) = true := by kernel_rfl
theorem c1 : (Rows.modelMakesRow.wf (OpenSpec.ofChange Rows.modelMakesSpec)) = true := (jl (jl (jl (jl (jl (jl (jl (jl g0))))))))
theorem c2 : (laidOutB Tryz.pinned.checked.prog) = true := (jr (jl (jl (jl (jl (jl (jl (jl g0))))))))
theorem c3 : (mapsRowed Tryz.pinned.checked.prog) = true := (jr (jl (jl (jl (jl (jl (jl g0)))))))
theorem c4 : (Tryz.f3.params.all (Tryz.pinned.checked.prog.readableRec ·)) = true := (jr (jl (jl (jl (jl (jl g0))))))
theorem c5 : (namedTie Tryz.pinned.checked.prog Rows.modelMakesRow.named Rows.modelMakesSpec.vars) = true := (jr (jl (jl (jl (jl g0)))))
theorem c6 : (Rows.modelMakesRow.stops == []) = true := (jr (jl (jl (jl g0))))
theorem c7 : (Tryz.pinned.checked.prog.stops == []) = true := (jr (jl (jl g0)))
theorem c8 : (Rows.modelMakesRow.knobs == []) = true := (jr (jl g0))
theorem c9 : (Tryz.pinned.checked.prog.stopKnobs == []) = true := (jr g0)
theorem c10 : (Rows.modelMakesRow.inPlace == Tryz.pinned.checked.prog.inPlace 3) = true := by kernel_rfl
theorem c11 : (Rows.modelMakesRow.unfollowed == Tryz.pinned.checked.prog.unfollowed 3) = true := by kernel_rfl
theorem c12 : (Rows.modelMakesRow.recurses == Tryz.pinned.checked.prog.recurses 3) = true := by kernel_rfl
theorem c13 : (Rows.modelMakesRow.named == Tryz.pinned.checked.prog.varsNamed 3) = true := by kernel_rfl
theorem g13 : ((Rows.modelMakesRow.maps == (Tryz.f3.params.toList ++ Rows.modelMakesSpec.plain.varTypes Tryz.pinned.checked.prog).any (Tryz.pinned.checked.prog.mapsRec ·)) && (Rows.modelMakesRow.ifaces == (Tryz.f3.params.toList ++ Rows.modelMakesSpec.plain.varTypes Tryz.pinned.checked.prog).any (Tryz.pinned.checked.prog.ifacesRec ·)) && (Rows.modelMakesRow.mapsOut == Tryz.pinned.checked.prog.mapsAmong Tryz.f3.resultTypes.toList) && (Rows.modelMakesRow.loops == (Tryz.f3.params.toList ++ Rows.modelMakesSpec.plain.varTypes Tryz.pinned.checked.prog).any (Tryz.pinned.checked.prog.loopsFrom ·)) && (Rows.modelMakesRow.wideKeys == (Tryz.f3.params.toList ++ Rows.modelMakesSpec.plain.varTypes Tryz.pinned.checked.prog ++ Tryz.f3.resultTypes.toList).any (Tryz.pinned.checked.prog.wideKeysFrom ·)) && (Rows.modelMakesSpec.vars.all (Tryz.pinned.checked.prog.varReadable ·)) && (Tryz.f3.resultTypes.all (fun t => Tryz.pinned.checked.prog.readableRec t && decide (t < Tryz.pinned.checked.prog.types.size))) && (Rows.modelMakesRow.ifacesOut == Tryz.f3.resultTypes.toList.any (Tryz.pinned.checked.prog.ifacesRec ·)) && (Rows.modelMakesRow.loopsOut == Tryz.f3.resultTypes.toList.any (Tryz.pinned.checked.prog.loopsFrom ·)) && (Rows.modelMakesRow.plainKeys == Tryz.pinned.checked.prog.plainKeys) && (Rows.modelMakesRow.shortTexts.isNone) && (Tryz.pinned.checked.prog.stopsHeard) && (Tryz.pinned.checked.prog.mayEnter) && (Rows.modelMakesRow.lifted == Tryz.pinned.checked.prog.liftsFinal) && (Tryz.pinned.checked.prog.make == some Rows.modelMakesRow.make) && (Rows.modelMakesRow.kinds == (if Rows.modelMakesRow.domain.isEmpty = true then [] else Tryz.f3.params.toList.map (fun t => match Tryz.pinned.checked.prog.underlying t with | some (.int k) => some k | _ => none))) && (Rows.modelMakesRow.pinned == Rows.modelMakesRow.pinnedBy) && (Rows.modelMakesRow.veiled == (Tryz.f3.params.toList ++ Rows.modelMakesSpec.plain.varTypes Tryz.pinned.checked.prog ++ Tryz.f3.resultTypes.toList).any (Tryz.pinned.checked.prog.veiledRec ·)) && (Rows.modelMakesRow.veiledFits Tryz.pinned.checked.prog Tryz.f3.params.toList (Tryz.f3.params.toList ++ Rows.modelMakesSpec.plain.varTypes Tryz.pinned.checked.prog ++ Tryz.f3.resultTypes.toList))) = true := by kernel_rfl
theorem c14 : (Rows.modelMakesRow.maps == (Tryz.f3.params.toList ++ Rows.modelMakesSpec.plain.varTypes Tryz.pinned.checked.prog).any (Tryz.pinned.checked.prog.mapsRec ·)) = true := (jl (jl (jl (jl (jl (jl (jl (jl (jl (jl (jl (jl (jl (jl (jl (jl (jl (jl g13))))))))))))))))))
theorem c15 : (Rows.modelMakesRow.ifaces == (Tryz.f3.params.toList ++ Rows.modelMakesSpec.plain.varTypes Tryz.pinned.checked.prog).any (Tryz.pinned.checked.prog.ifacesRec ·)) = true := (jr (jl (jl (jl (jl (jl (jl (jl (jl (jl (jl (jl (jl (jl (jl (jl (jl (jl g13))))))))))))))))))
theorem c16 : (Rows.modelMakesRow.mapsOut == Tryz.pinned.checked.prog.mapsAmong Tryz.f3.resultTypes.toList) = true := (jr (jl (jl (jl (jl (jl (jl (jl (jl (jl (jl (jl (jl (jl (jl (jl (jl g13)))))))))))))))))
theorem c17 : (Rows.modelMakesRow.loops == (Tryz.f3.params.toList ++ Rows.modelMakesSpec.plain.varTypes Tryz.pinned.checked.prog).any (Tryz.pinned.checked.prog.loopsFrom ·)) = true := (jr (jl (jl (jl (jl (jl (jl (jl (jl (jl (jl (jl (jl (jl (jl (jl g13))))))))))))))))
theorem c18 : (Rows.modelMakesRow.wideKeys == (Tryz.f3.params.toList ++ Rows.modelMakesSpec.plain.varTypes Tryz.pinned.checked.prog ++ Tryz.f3.resultTypes.toList).any (Tryz.pinned.checked.prog.wideKeysFrom ·)) = true := (jr (jl (jl (jl (jl (jl (jl (jl (jl (jl (jl (jl (jl (jl (jl g13)))))))))))))))
theorem c19 : (Rows.modelMakesSpec.vars.all (Tryz.pinned.checked.prog.varReadable ·)) = true := (jr (jl (jl (jl (jl (jl (jl (jl (jl (jl (jl (jl (jl (jl g13))))))))))))))
theorem c20 : (Tryz.f3.resultTypes.all (fun t => Tryz.pinned.checked.prog.readableRec t && decide (t < Tryz.pinned.checked.prog.types.size))) = true := (jr (jl (jl (jl (jl (jl (jl (jl (jl (jl (jl (jl (jl g13)))))))))))))
theorem c21 : (Rows.modelMakesRow.ifacesOut == Tryz.f3.resultTypes.toList.any (Tryz.pinned.checked.prog.ifacesRec ·)) = true := (jr (jl (jl (jl (jl (jl (jl (jl (jl (jl (jl (jl g13))))))))))))
theorem c22 : (Rows.modelMakesRow.loopsOut == Tryz.f3.resultTypes.toList.any (Tryz.pinned.checked.prog.loopsFrom ·)) = true := (jr (jl (jl (jl (jl (jl (jl (jl (jl (jl (jl g13)))))))))))
theorem c23 : (Rows.modelMakesRow.plainKeys == Tryz.pinned.checked.prog.plainKeys) = true := (jr (jl (jl (jl (jl (jl (jl (jl (jl (jl g13))))))))))
theorem c24 : (Rows.modelMakesRow.shortTexts.isNone) = true := (jr (jl (jl (jl (jl (jl (jl (jl (jl g13)))))))))
theorem c25 : (Tryz.pinned.checked.prog.stopsHeard) = true := (jr (jl (jl (jl (jl (jl (jl (jl g13))))))))
theorem c26 : (Tryz.pinned.checked.prog.mayEnter) = true := (jr (jl (jl (jl (jl (jl (jl g13)))))))
theorem c27 : (Rows.modelMakesRow.lifted == Tryz.pinned.checked.prog.liftsFinal) = true := (jr (jl (jl (jl (jl (jl g13))))))
theorem c28 : (Tryz.pinned.checked.prog.make == some Rows.modelMakesRow.make) = true := (jr (jl (jl (jl (jl g13)))))
theorem c29 : (Rows.modelMakesRow.kinds == (if Rows.modelMakesRow.domain.isEmpty = true then [] else Tryz.f3.params.toList.map (fun t => match Tryz.pinned.checked.prog.underlying t with | some (.int k) => some k | _ => none))) = true := (jr (jl (jl (jl g13))))
theorem c30 : (Rows.modelMakesRow.pinned == Rows.modelMakesRow.pinnedBy) = true := (jr (jl (jl g13)))
theorem c31 : (Rows.modelMakesRow.veiled == (Tryz.f3.params.toList ++ Rows.modelMakesSpec.plain.varTypes Tryz.pinned.checked.prog ++ Tryz.f3.resultTypes.toList).any (Tryz.pinned.checked.prog.veiledRec ·)) = true := (jr (jl g13))
theorem c32 : (Rows.modelMakesRow.veiledFits Tryz.pinned.checked.prog Tryz.f3.params.toList (Tryz.f3.params.toList ++ Rows.modelMakesSpec.plain.varTypes Tryz.pinned.checked.prog ++ Tryz.f3.resultTypes.toList)) = true := (jr g13)
theorem f_closed : joinedFacts Tryz.pinned.checked.prog 3 Tryz.f3 Rows.modelMakesSpec Rows.modelMakesRow = true := (jm (jm (jm (jm (jm (jm (jm (jm (jm (jm (jm (jm (jm (jm (jm (jm (jm (jm (jm (jm (jm (jm (jm (jm (jm (jm (jm (jm (jm (jm (jm c1 c2) c3) c4) c5) c6) c7) c8) c9) c10) c11) c12) c13) c14) c15) c16) c17) c18) c19) c20) c21) c22) c23) c24) c25) c26) c27) c28) c29) c30) c31) c32)
theorem gk : ((decide (Tryz.pinned.checked.prog.funcNamed Rows.modelMakesRow.func = some 3)) && (decide (Tryz.f3.isInstance Tryz.pinned.checked.prog Rows.modelMakesRow.origin Rows.modelMakesRow.targs)) && (Rows.modelMakesRow.wfByText (OpenSpec.ofChange Rows.modelMakesSpec)) && (decide (Tryz.pinned.checked.prog.mainIs = some (true, ((true, "aab887c3da601df2f871e2760c82571803c9e8d0a79aa9b49de39aea14d39ed0")).2.toList))) && (true == Tryz.pinned.checked.prog.looks []) && (false == Rows.modelMakesRow.goesBy Tryz.pinned.checked.prog) && ([3, 3, 3, 3].all fun u => !Tryz.pinned.checked.prog.wantsStandIn u)) = true := by kernel_rfl
theorem k_named : (decide (Tryz.pinned.checked.prog.funcNamed Rows.modelMakesRow.func = some 3)) = true := (jl (jl (jl (jl (jl (jl gk))))))
theorem k_inst : (decide (Tryz.f3.isInstance Tryz.pinned.checked.prog Rows.modelMakesRow.origin Rows.modelMakesRow.targs)) = true := (jr (jl (jl (jl (jl (jl gk))))))
theorem k_wf : (Rows.modelMakesRow.wfByText (OpenSpec.ofChange Rows.modelMakesSpec)) = true := (jr (jl (jl (jl (jl gk)))))
theorem k_main0 : (decide (Tryz.pinned.checked.prog.mainIs = some (true, ((true, "aab887c3da601df2f871e2760c82571803c9e8d0a79aa9b49de39aea14d39ed0")).2.toList))) = true := (jr (jl (jl (jl gk))))
theorem k_looks0 : (true == Tryz.pinned.checked.prog.looks []) = true := (jr (jl (jl gk)))
theorem k_goes0 : (false == Rows.modelMakesRow.goesBy Tryz.pinned.checked.prog) = true := (jr (jl gk))
theorem k_want : ([3, 3, 3, 3].all fun u => !Tryz.pinned.checked.prog.wantsStandIn u) = true := (jr gk)
theorem f_named : Tryz.pinned.checked.prog.funcNamed Rows.modelMakesRow.func = some 3 := of_decide_eq_true k_named
theorem f_inst : Tryz.f3.isInstance Tryz.pinned.checked.prog Rows.modelMakesRow.origin Rows.modelMakesRow.targs := of_decide_eq_true k_inst
theorem k_main : Tryz.pinned.checked.prog.mainIs = some (true, ((true, "aab887c3da601df2f871e2760c82571803c9e8d0a79aa9b49de39aea14d39ed0")).2.toList) := of_decide_eq_true k_main0
theorem k_looks : true = Tryz.pinned.checked.prog.looks [] := eq_of_beq k_looks0
theorem k_goes : false = Rows.modelMakesRow.goesBy Tryz.pinned.checked.prog := eq_of_beq k_goes0
theorem f_wrap : Tryz.f3.isWrapper Tryz.pinned.checked.prog Rows.modelMakesRow.wrapper Rows.modelMakesRow.mainSum := by unfold Func.isWrapper; first | (rw [if_pos (by decide +kernel)]; kernel_rfl) | (rw [if_neg (by decide +kernel)]; exact ⟨rfl, rfl⟩)
end Go.Proofs.YtcoecbpeilmdmaaGreatDoor.modelMakes
