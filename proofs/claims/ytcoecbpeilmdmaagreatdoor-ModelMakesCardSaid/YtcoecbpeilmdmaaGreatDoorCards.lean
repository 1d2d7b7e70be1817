/-
  DERIVED. GIVEN WITH THE SEED: THE CARDS: each row of YtcoecbpeilmdmaaGreatDoorRows.lean that lists a variable, with what it lists TIED to the program's text (the seventh form; the later family's looks); each row that meets fmt, with fmt's text TOLD by the authors' own Lean function (tested against real Go, not proved from fmt's source: count such statements apart). THE CARD IS WHAT COUNTS. Prove the row's statement (the work); the ties are given (YtcoecbpeilmdmaaGreatDoorTie.lean); close each card by the builder's one call (the guide's Derived/Test/ToyasCard.lean, 'card_holds'). Laid BY PROGRAM, IN A SANDBOX (cutbox-door.mjs). By AI agents, Wed Nov 11 2026. No macro, syntax, notation, axiom, sorry.
-/
import Derived.Test.YtcoecbpeilmdmaaGreatDoorRows
import GoSem.ClaimSeven
namespace Go.Proofs.YtcoecbpeilmdmaaGreatDoor
namespace Rows

/-- THE TIED CARD OF 'weftlaw1.ModelMakes'. -/
def modelMakesCard : Claim7 := { stood := { row := modelMakesRow, standIns := [], harness := (true, "aab887c3da601df2f871e2760c82571803c9e8d0a79aa9b49de39aea14d39ed0"), looks := true }, kinds := [], alts := [], laidByText := true, laidKinds := [.data, .data, .data, .data, .sentinel, .sentinel, .pinned], laidTests := true, laidLooks := .later }
def ModelMakesCardSaid : Prop := Claim7.holds Tryz.pinned (.plain (OpenSpec.ofChange modelMakesSpec)) modelMakesCard

/-- THE TIED CARD OF 'weftlaw1.ModelChecks'. -/
def modelChecksCard : Claim7 := { stood := { row := modelChecksRow, standIns := [], harness := (true, "aab887c3da601df2f871e2760c82571803c9e8d0a79aa9b49de39aea14d39ed0"), looks := true }, kinds := [], alts := [], laidByText := true, laidKinds := [.data, .data, .data, .data, .sentinel, .sentinel, .pinned], laidTests := true, laidLooks := .later }
def ModelChecksCardSaid : Prop := Claim7.holds Tryz.pinned (.plain (OpenSpec.ofChange modelChecksSpec)) modelChecksCard

/-- THE TIED CARD OF 'weftlaw1.ModelEntries'. -/
def modelEntriesCard : Claim7 := { stood := { row := modelEntriesRow, standIns := [], harness := (true, "aab887c3da601df2f871e2760c82571803c9e8d0a79aa9b49de39aea14d39ed0"), looks := true }, kinds := [], alts := [], laidByText := true, laidKinds := [.data, .data, .data, .data, .sentinel, .sentinel, .pinned], laidTests := true, laidLooks := .later }
def ModelEntriesCardSaid : Prop := Claim7.holds Tryz.pinned (.plain (OpenSpec.ofChange modelEntriesSpec)) modelEntriesCard

/-- THE TIED CARD OF 'weftlaw1.ModelScores'. -/
def modelScoresCard : Claim7 := { stood := { row := modelScoresRow, standIns := [], harness := (true, "aab887c3da601df2f871e2760c82571803c9e8d0a79aa9b49de39aea14d39ed0"), looks := true }, kinds := [], alts := [], laidByText := true, laidKinds := [.data, .data, .data, .data, .sentinel, .sentinel, .pinned], laidTests := true, laidLooks := .later }
def ModelScoresCardSaid : Prop := Claim7.holds Tryz.pinned (.plain (OpenSpec.ofChange modelScoresSpec)) modelScoresCard

/-- THE SECOND FORM's CARD OF 'weftlaw1.ModelMakes'. -/
def modelMakesUptoCard : Claim7 := { stood := { row := modelMakesUptoRow, standIns := [], harness := (true, "aab887c3da601df2f871e2760c82571803c9e8d0a79aa9b49de39aea14d39ed0"), looks := true }, kinds := [], alts := [], laidByText := true, laidKinds := [.data, .data, .data, .data, .sentinel, .sentinel, .pinned], laidTests := true, laidLooks := .later }
def ModelMakesUptoCardSaid : Prop := Claim7.holds Tryz.pinned (.plain (OpenSpec.upto modelMakesSpec)) modelMakesUptoCard

/-- THE SECOND FORM's CARD OF 'weftlaw1.ModelChecks'. -/
def modelChecksUptoCard : Claim7 := { stood := { row := modelChecksUptoRow, standIns := [], harness := (true, "aab887c3da601df2f871e2760c82571803c9e8d0a79aa9b49de39aea14d39ed0"), looks := true }, kinds := [], alts := [], laidByText := true, laidKinds := [.data, .data, .data, .data, .sentinel, .sentinel, .pinned], laidTests := true, laidLooks := .later }
def ModelChecksUptoCardSaid : Prop := Claim7.holds Tryz.pinned (.plain (OpenSpec.upto modelChecksSpec)) modelChecksUptoCard

/-- THE SECOND FORM's CARD OF 'weftlaw1.ModelEntries'. -/
def modelEntriesUptoCard : Claim7 := { stood := { row := modelEntriesUptoRow, standIns := [], harness := (true, "aab887c3da601df2f871e2760c82571803c9e8d0a79aa9b49de39aea14d39ed0"), looks := true }, kinds := [], alts := [], laidByText := true, laidKinds := [.data, .data, .data, .data, .sentinel, .sentinel, .pinned], laidTests := true, laidLooks := .later }
def ModelEntriesUptoCardSaid : Prop := Claim7.holds Tryz.pinned (.plain (OpenSpec.upto modelEntriesSpec)) modelEntriesUptoCard

/-- THE SECOND FORM's CARD OF 'weftlaw1.ModelScores'. -/
def modelScoresUptoCard : Claim7 := { stood := { row := modelScoresUptoRow, standIns := [], harness := (true, "aab887c3da601df2f871e2760c82571803c9e8d0a79aa9b49de39aea14d39ed0"), looks := true }, kinds := [], alts := [], laidByText := true, laidKinds := [.data, .data, .data, .data, .sentinel, .sentinel, .pinned], laidTests := true, laidLooks := .later }
def ModelScoresUptoCardSaid : Prop := Claim7.holds Tryz.pinned (.plain (OpenSpec.upto modelScoresSpec)) modelScoresUptoCard
end Rows
end Go.Proofs.YtcoecbpeilmdmaaGreatDoor
