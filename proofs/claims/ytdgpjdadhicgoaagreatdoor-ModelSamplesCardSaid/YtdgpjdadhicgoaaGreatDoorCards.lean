/-
  DERIVED. GIVEN WITH THE SEED: THE CARDS: each row of YtdgpjdadhicgoaaGreatDoorRows.lean that lists a variable, with what it lists TIED to the program's text (the seventh form; the later family's looks); each row that meets fmt, with fmt's text TOLD by the authors' own Lean function (tested against real Go, not proved from fmt's source: count such statements apart). THE CARD IS WHAT COUNTS. Prove the row's statement (the work); the ties are given (YtdgpjdadhicgoaaGreatDoorTie.lean); close each card by the builder's one call (the guide's Derived/Test/ToyasCard.lean, 'card_holds'). Laid BY PROGRAM, IN A SANDBOX (cutbox-door.mjs). By AI agents, Wed Nov 11 2026. No macro, syntax, notation, axiom, sorry.
-/
import Derived.Test.YtdgpjdadhicgoaaGreatDoorRows
import GoSem.ClaimSeven
namespace Go.Proofs.YtdgpjdadhicgoaaGreatDoor
namespace Rows

/-- THE TIED CARD OF 'weftlaw1.ModelSamples'. -/
def modelSamplesCard : Claim7 := { stood := { row := modelSamplesRow, standIns := [], harness := (true, "708de82cb792d6714bae0a804a576ca552d383e7180f2508e10e15d40ec03607"), looks := true }, kinds := [], alts := [], laidByText := true, laidKinds := [.data, .data, .data, .data, .sentinel, .sentinel, .pinned], laidTests := true, laidLooks := .later }
def ModelSamplesCardSaid : Prop := Claim7.holds Tryz.pinned (.plain (OpenSpec.ofChange modelSamplesSpec)) modelSamplesCard

/-- THE TIED CARD OF 'weftlaw1.ModelMakes'. -/
def modelMakesCard : Claim7 := { stood := { row := modelMakesRow, standIns := [], harness := (true, "708de82cb792d6714bae0a804a576ca552d383e7180f2508e10e15d40ec03607"), looks := true }, kinds := [], alts := [], laidByText := true, laidKinds := [.data, .data, .data, .data, .sentinel, .sentinel, .pinned], laidTests := true, laidLooks := .later }
def ModelMakesCardSaid : Prop := Claim7.holds Tryz.pinned (.plain (OpenSpec.ofChange modelMakesSpec)) modelMakesCard

/-- THE TIED CARD OF 'weftlaw1.ModelRanks'. -/
def modelRanksCard : Claim7 := { stood := { row := modelRanksRow, standIns := [], harness := (true, "708de82cb792d6714bae0a804a576ca552d383e7180f2508e10e15d40ec03607"), looks := true }, kinds := [], alts := [], laidByText := true, laidKinds := [.data, .data, .data, .data, .sentinel, .sentinel, .pinned], laidTests := true, laidLooks := .later }
def ModelRanksCardSaid : Prop := Claim7.holds Tryz.pinned (.plain (OpenSpec.ofChange modelRanksSpec)) modelRanksCard

/-- THE SECOND FORM's CARD OF 'weftlaw1.ModelSamples'. -/
def modelSamplesUptoCard : Claim7 := { stood := { row := modelSamplesUptoRow, standIns := [], harness := (true, "708de82cb792d6714bae0a804a576ca552d383e7180f2508e10e15d40ec03607"), looks := true }, kinds := [], alts := [], laidByText := true, laidKinds := [.data, .data, .data, .data, .sentinel, .sentinel, .pinned], laidTests := true, laidLooks := .later }
def ModelSamplesUptoCardSaid : Prop := Claim7.holds Tryz.pinned (.plain (OpenSpec.upto modelSamplesSpec)) modelSamplesUptoCard

/-- THE SECOND FORM's CARD OF 'weftlaw1.ModelMakes'. -/
def modelMakesUptoCard : Claim7 := { stood := { row := modelMakesUptoRow, standIns := [], harness := (true, "708de82cb792d6714bae0a804a576ca552d383e7180f2508e10e15d40ec03607"), looks := true }, kinds := [], alts := [], laidByText := true, laidKinds := [.data, .data, .data, .data, .sentinel, .sentinel, .pinned], laidTests := true, laidLooks := .later }
def ModelMakesUptoCardSaid : Prop := Claim7.holds Tryz.pinned (.plain (OpenSpec.upto modelMakesSpec)) modelMakesUptoCard

/-- THE SECOND FORM's CARD OF 'weftlaw1.ModelRanks'. -/
def modelRanksUptoCard : Claim7 := { stood := { row := modelRanksUptoRow, standIns := [], harness := (true, "708de82cb792d6714bae0a804a576ca552d383e7180f2508e10e15d40ec03607"), looks := true }, kinds := [], alts := [], laidByText := true, laidKinds := [.data, .data, .data, .data, .sentinel, .sentinel, .pinned], laidTests := true, laidLooks := .later }
def ModelRanksUptoCardSaid : Prop := Claim7.holds Tryz.pinned (.plain (OpenSpec.upto modelRanksSpec)) modelRanksUptoCard
end Rows
end Go.Proofs.YtdgpjdadhicgoaaGreatDoor
