/-
 Closed facts, by the kernel, that the row of weftworks/weftlaw1.NumReads and its card ask of the program. No condition.
-/
import Derived.Test.YtaffkbemjbfajaaGreatDoorCards
import Derived.JoinedOf
namespace Go.Proofs.YtaffkbemjbfajaaGreatDoor.numReads
open Go
theorem jm {a b:Bool} (h:a=true) (k:b=true):(a&&b)=true:=by rw [h,k];rfl
theorem jl {a b:Bool} (h:(a&&b)=true):a=true:=by cases a <;> simp_all
theorem jr {a b:Bool} (h:(a&&b)=true):b=true:=by cases a <;> simp_all
set_option maxRecDepth 100000
theorem g0:((Rows.numReadsRow.wf (OpenSpec.ofChange Rows.numReadsSpec))&&(laidOutB Tryz.pinned.checked.prog)&&(mapsRowed Tryz.pinned.checked.prog)&&(Tryz.f16.params.all (Tryz.pinned.checked.prog.readableRec ·))&&(namedTie Tryz.pinned.checked.prog Rows.numReadsRow.named Rows.numReadsSpec.vars)&&(Rows.numReadsRow.stops==[])&&(Tryz.pinned.checked.prog.stops==[])&&(Rows.numReadsRow.knobs==[])&&(Tryz.pinned.checked.prog.stopKnobs==[]))=true:=by kernel_rfl
theorem c1:(Rows.numReadsRow.wf (OpenSpec.ofChange Rows.numReadsSpec))=true:=(jl (jl (jl (jl (jl (jl (jl (jl g0))))))))
theorem c2:(laidOutB Tryz.pinned.checked.prog)=true:=(jr (jl (jl (jl (jl (jl (jl (jl g0))))))))
theorem c3:(mapsRowed Tryz.pinned.checked.prog)=true:=(jr (jl (jl (jl (jl (jl (jl g0)))))))
theorem c4:(Tryz.f16.params.all (Tryz.pinned.checked.prog.readableRec ·))=true:=(jr (jl (jl (jl (jl (jl g0))))))
theorem c5:(namedTie Tryz.pinned.checked.prog Rows.numReadsRow.named Rows.numReadsSpec.vars)=true:=(jr (jl (jl (jl (jl g0)))))
theorem c6:(Rows.numReadsRow.stops==[])=true:=(jr (jl (jl (jl g0))))
theorem c7:(Tryz.pinned.checked.prog.stops==[])=true:=(jr (jl (jl g0)))
theorem c8:(Rows.numReadsRow.knobs==[])=true:=(jr (jl g0))
theorem c9:(Tryz.pinned.checked.prog.stopKnobs==[])=true:=(jr g0)
theorem c10:(Rows.numReadsRow.inPlace==Tryz.pinned.checked.prog.inPlace 16)=true:=by kernel_rfl
theorem c11:(Rows.numReadsRow.unfollowed==Tryz.pinned.checked.prog.unfollowed 16)=true:=by kernel_rfl
theorem c12:(Rows.numReadsRow.recurses==Tryz.pinned.checked.prog.recurses 16)=true:=by kernel_rfl
theorem c13:(Rows.numReadsRow.named==Tryz.pinned.checked.prog.varsNamed 16)=true:=by kernel_rfl
theorem g13:((Rows.numReadsRow.maps==(Tryz.f16.params.toList++Rows.numReadsSpec.plain.varTypes Tryz.pinned.checked.prog).any (Tryz.pinned.checked.prog.mapsRec ·))&&(Rows.numReadsRow.ifaces==(Tryz.f16.params.toList++Rows.numReadsSpec.plain.varTypes Tryz.pinned.checked.prog).any (Tryz.pinned.checked.prog.ifacesRec ·))&&(Rows.numReadsRow.mapsOut==Tryz.pinned.checked.prog.mapsAmong Tryz.f16.resultTypes.toList)&&(Rows.numReadsRow.loops==(Tryz.f16.params.toList++Rows.numReadsSpec.plain.varTypes Tryz.pinned.checked.prog).any (Tryz.pinned.checked.prog.loopsFrom ·))&&(Rows.numReadsRow.wideKeys==(Tryz.f16.params.toList++Rows.numReadsSpec.plain.varTypes Tryz.pinned.checked.prog++Tryz.f16.resultTypes.toList).any (Tryz.pinned.checked.prog.wideKeysFrom ·))&&(Rows.numReadsSpec.vars.all (Tryz.pinned.checked.prog.varReadable ·))&&(Tryz.f16.resultTypes.all (fun t=>Tryz.pinned.checked.prog.readableRec t&&decide (t<Tryz.pinned.checked.prog.types.size)))&&(Rows.numReadsRow.ifacesOut==Tryz.f16.resultTypes.toList.any (Tryz.pinned.checked.prog.ifacesRec ·))&&(Rows.numReadsRow.loopsOut==Tryz.f16.resultTypes.toList.any (Tryz.pinned.checked.prog.loopsFrom ·))&&(Rows.numReadsRow.plainKeys==Tryz.pinned.checked.prog.plainKeys)&&(Rows.numReadsRow.shortTexts.isNone)&&(Tryz.pinned.checked.prog.stopsHeard)&&(Tryz.pinned.checked.prog.mayEnter)&&(Rows.numReadsRow.lifted==Tryz.pinned.checked.prog.liftsFinal)&&(Tryz.pinned.checked.prog.make==some Rows.numReadsRow.make)&&(Rows.numReadsRow.kinds==(if Rows.numReadsRow.domain.isEmpty=true then [] else Tryz.f16.params.toList.map (fun t=>match Tryz.pinned.checked.prog.underlying t with|some (.int k)=>some k|_=>none)))&&(Rows.numReadsRow.pinned==Rows.numReadsRow.pinnedBy)&&(Rows.numReadsRow.veiled==(Tryz.f16.params.toList++Rows.numReadsSpec.plain.varTypes Tryz.pinned.checked.prog++Tryz.f16.resultTypes.toList).any (Tryz.pinned.checked.prog.veiledRec ·))&&(Rows.numReadsRow.veiledFits Tryz.pinned.checked.prog Tryz.f16.params.toList (Tryz.f16.params.toList++Rows.numReadsSpec.plain.varTypes Tryz.pinned.checked.prog++Tryz.f16.resultTypes.toList)))=true:=by kernel_rfl
theorem c14:(Rows.numReadsRow.maps==(Tryz.f16.params.toList++Rows.numReadsSpec.plain.varTypes Tryz.pinned.checked.prog).any (Tryz.pinned.checked.prog.mapsRec ·))=true:=(jl (jl (jl (jl (jl (jl (jl (jl (jl (jl (jl (jl (jl (jl (jl (jl (jl (jl g13))))))))))))))))))
theorem c15:(Rows.numReadsRow.ifaces==(Tryz.f16.params.toList++Rows.numReadsSpec.plain.varTypes Tryz.pinned.checked.prog).any (Tryz.pinned.checked.prog.ifacesRec ·))=true:=(jr (jl (jl (jl (jl (jl (jl (jl (jl (jl (jl (jl (jl (jl (jl (jl (jl (jl g13))))))))))))))))))
theorem c16:(Rows.numReadsRow.mapsOut==Tryz.pinned.checked.prog.mapsAmong Tryz.f16.resultTypes.toList)=true:=(jr (jl (jl (jl (jl (jl (jl (jl (jl (jl (jl (jl (jl (jl (jl (jl (jl g13)))))))))))))))))
theorem c17:(Rows.numReadsRow.loops==(Tryz.f16.params.toList++Rows.numReadsSpec.plain.varTypes Tryz.pinned.checked.prog).any (Tryz.pinned.checked.prog.loopsFrom ·))=true:=(jr (jl (jl (jl (jl (jl (jl (jl (jl (jl (jl (jl (jl (jl (jl (jl g13))))))))))))))))
theorem c18:(Rows.numReadsRow.wideKeys==(Tryz.f16.params.toList++Rows.numReadsSpec.plain.varTypes Tryz.pinned.checked.prog++Tryz.f16.resultTypes.toList).any (Tryz.pinned.checked.prog.wideKeysFrom ·))=true:=(jr (jl (jl (jl (jl (jl (jl (jl (jl (jl (jl (jl (jl (jl (jl g13)))))))))))))))
theorem c19:(Rows.numReadsSpec.vars.all (Tryz.pinned.checked.prog.varReadable ·))=true:=(jr (jl (jl (jl (jl (jl (jl (jl (jl (jl (jl (jl (jl (jl g13))))))))))))))
theorem c20:(Tryz.f16.resultTypes.all (fun t=>Tryz.pinned.checked.prog.readableRec t&&decide (t<Tryz.pinned.checked.prog.types.size)))=true:=(jr (jl (jl (jl (jl (jl (jl (jl (jl (jl (jl (jl (jl g13)))))))))))))
theorem c21:(Rows.numReadsRow.ifacesOut==Tryz.f16.resultTypes.toList.any (Tryz.pinned.checked.prog.ifacesRec ·))=true:=(jr (jl (jl (jl (jl (jl (jl (jl (jl (jl (jl (jl g13))))))))))))
theorem c22:(Rows.numReadsRow.loopsOut==Tryz.f16.resultTypes.toList.any (Tryz.pinned.checked.prog.loopsFrom ·))=true:=(jr (jl (jl (jl (jl (jl (jl (jl (jl (jl (jl g13)))))))))))
theorem c23:(Rows.numReadsRow.plainKeys==Tryz.pinned.checked.prog.plainKeys)=true:=(jr (jl (jl (jl (jl (jl (jl (jl (jl (jl g13))))))))))
theorem c24:(Rows.numReadsRow.shortTexts.isNone)=true:=(jr (jl (jl (jl (jl (jl (jl (jl (jl g13)))))))))
theorem c25:(Tryz.pinned.checked.prog.stopsHeard)=true:=(jr (jl (jl (jl (jl (jl (jl (jl g13))))))))
theorem c26:(Tryz.pinned.checked.prog.mayEnter)=true:=(jr (jl (jl (jl (jl (jl (jl g13)))))))
theorem c27:(Rows.numReadsRow.lifted==Tryz.pinned.checked.prog.liftsFinal)=true:=(jr (jl (jl (jl (jl (jl g13))))))
theorem c28:(Tryz.pinned.checked.prog.make==some Rows.numReadsRow.make)=true:=(jr (jl (jl (jl (jl g13)))))
theorem c29:(Rows.numReadsRow.kinds==(if Rows.numReadsRow.domain.isEmpty=true then [] else Tryz.f16.params.toList.map (fun t=>match Tryz.pinned.checked.prog.underlying t with|some (.int k)=>some k|_=>none)))=true:=(jr (jl (jl (jl g13))))
theorem c30:(Rows.numReadsRow.pinned==Rows.numReadsRow.pinnedBy)=true:=(jr (jl (jl g13)))
theorem c31:(Rows.numReadsRow.veiled==(Tryz.f16.params.toList++Rows.numReadsSpec.plain.varTypes Tryz.pinned.checked.prog++Tryz.f16.resultTypes.toList).any (Tryz.pinned.checked.prog.veiledRec ·))=true:=(jr (jl g13))
theorem c32:(Rows.numReadsRow.veiledFits Tryz.pinned.checked.prog Tryz.f16.params.toList (Tryz.f16.params.toList++Rows.numReadsSpec.plain.varTypes Tryz.pinned.checked.prog++Tryz.f16.resultTypes.toList))=true:=(jr g13)
theorem f_closed:joinedFacts Tryz.pinned.checked.prog 16 Tryz.f16 Rows.numReadsSpec Rows.numReadsRow=true:=(jm (jm (jm (jm (jm (jm (jm (jm (jm (jm (jm (jm (jm (jm (jm (jm (jm (jm (jm (jm (jm (jm (jm (jm (jm (jm (jm (jm (jm (jm (jm c1 c2) c3) c4) c5) c6) c7) c8) c9) c10) c11) c12) c13) c14) c15) c16) c17) c18) c19) c20) c21) c22) c23) c24) c25) c26) c27) c28) c29) c30) c31) c32)
theorem gk:((decide (Tryz.pinned.checked.prog.funcNamed Rows.numReadsRow.func=some 16))&&(decide (Tryz.f16.isInstance Tryz.pinned.checked.prog Rows.numReadsRow.origin Rows.numReadsRow.targs))&&(Rows.numReadsRow.wfByText (OpenSpec.ofChange Rows.numReadsSpec))&&(decide (Tryz.pinned.checked.prog.mainIs=some (true,((true, "9dae0d3afb29ebe565f15e9a2cea56c6586652e445151b15effdd894d882d3cf")).2.toList)))&&(true==Tryz.pinned.checked.prog.looks [])&&(false==Rows.numReadsRow.goesBy Tryz.pinned.checked.prog)&&([36].all fun u=>!Tryz.pinned.checked.prog.wantsStandIn u))=true:=by kernel_rfl
theorem k_named:(decide (Tryz.pinned.checked.prog.funcNamed Rows.numReadsRow.func=some 16))=true:=(jl (jl (jl (jl (jl (jl gk))))))
theorem k_inst:(decide (Tryz.f16.isInstance Tryz.pinned.checked.prog Rows.numReadsRow.origin Rows.numReadsRow.targs))=true:=(jr (jl (jl (jl (jl (jl gk))))))
theorem k_wf:(Rows.numReadsRow.wfByText (OpenSpec.ofChange Rows.numReadsSpec))=true:=(jr (jl (jl (jl (jl gk)))))
theorem k_main0:(decide (Tryz.pinned.checked.prog.mainIs=some (true,((true, "9dae0d3afb29ebe565f15e9a2cea56c6586652e445151b15effdd894d882d3cf")).2.toList)))=true:=(jr (jl (jl (jl gk))))
theorem k_looks0:(true==Tryz.pinned.checked.prog.looks [])=true:=(jr (jl (jl gk)))
theorem k_goes0:(false==Rows.numReadsRow.goesBy Tryz.pinned.checked.prog)=true:=(jr (jl gk))
theorem k_want:([36].all fun u=>!Tryz.pinned.checked.prog.wantsStandIn u)=true:=(jr gk)
theorem f_named:Tryz.pinned.checked.prog.funcNamed Rows.numReadsRow.func=some 16:=of_decide_eq_true k_named
theorem f_inst:Tryz.f16.isInstance Tryz.pinned.checked.prog Rows.numReadsRow.origin Rows.numReadsRow.targs:=of_decide_eq_true k_inst
theorem k_main:Tryz.pinned.checked.prog.mainIs=some (true,((true, "9dae0d3afb29ebe565f15e9a2cea56c6586652e445151b15effdd894d882d3cf")).2.toList):=of_decide_eq_true k_main0
theorem k_looks:true=Tryz.pinned.checked.prog.looks []:=eq_of_beq k_looks0
theorem k_goes:false=Rows.numReadsRow.goesBy Tryz.pinned.checked.prog:=eq_of_beq k_goes0
theorem f_wrap:Tryz.f16.isWrapper Tryz.pinned.checked.prog Rows.numReadsRow.wrapper Rows.numReadsRow.mainSum:=by unfold Func.isWrapper;first|(rw [if_pos (by decide +kernel)];kernel_rfl)|(rw [if_neg (by decide +kernel)];exact ⟨rfl,rfl⟩)
end Go.Proofs.YtaffkbemjbfajaaGreatDoor.numReads
