/-
  DERIVED. GIVEN WITH THE SEED: THE CARDS: each row of YtbcjhmeeonhmaaaDoorRows.lean that lists a variable, with what it lists TIED to the program's text (the seventh form; the later family's looks); each row that meets fmt, with fmt's text TOLD by the authors' own Lean function (tested against real Go, not proved from fmt's source: count such statements apart). THE CARD IS WHAT COUNTS. Prove the row's statement (the work); the ties are given (YtbcjhmeeonhmaaaDoorTie.lean); close each card by the builder's one call (the guide's Derived/Test/ToyasCard.lean, 'card_holds'). Laid BY PROGRAM, IN A SANDBOX (cutbox-door.mjs). By AI agents, Wed Nov 11 2026. No macro, syntax, notation, axiom, sorry.
-/
import Derived.Test.YtbcjhmeeonhmaaaDoorRows
import GoSem.ClaimSeven
namespace Go.Proofs.YtbcjhmeeonhmaaaDoor
namespace Rows

/-- THE TIED CARD OF 'pleacherlaw09.PaxGets'. -/
def paxGetsCard : Claim7 := { stood := { row := paxGetsRow, standIns := [], harness := (true, "4fb3968eb57d909d3a9f7655eaa9586fd597101c0cafd47bcacb47ebc18cd12a"), looks := true }, kinds := [], alts := [], laidByText := true, laidKinds := [.handle, .sentinel, .sentinel], laidTests := true, laidLooks := .later }
def PaxGetsCardSaid : Prop := Claim7.holds Tryd.pinned (.plain (OpenSpec.ofChange paxGetsSpec)) paxGetsCard

/-- THE TIED CARD OF 'pleacherlaw09.PaxCounts'. -/
def paxCountsCard : Claim7 := { stood := { row := paxCountsRow, standIns := [], harness := (true, "4fb3968eb57d909d3a9f7655eaa9586fd597101c0cafd47bcacb47ebc18cd12a"), looks := true }, kinds := [], alts := [], laidByText := true, laidKinds := [.handle, .sentinel, .sentinel], laidTests := true, laidLooks := .later }
def PaxCountsCardSaid : Prop := Claim7.holds Tryd.pinned (.plain (OpenSpec.ofChange paxCountsSpec)) paxCountsCard

/-- THE TIED CARD OF 'pleacherlaw09.PaxBack'. -/
def paxBackCard : Claim7 := { stood := { row := paxBackRow, standIns := [], harness := (true, "4fb3968eb57d909d3a9f7655eaa9586fd597101c0cafd47bcacb47ebc18cd12a"), looks := true }, kinds := [], alts := [], laidByText := true, laidKinds := [.handle, .sentinel, .sentinel], laidTests := true, laidLooks := .later }
def PaxBackCardSaid : Prop := Claim7.holds Tryd.pinned (.plain (OpenSpec.ofChange paxBackSpec)) paxBackCard

/-- THE TIED CARD OF 'pleacherlaw09.PaxPuts'. -/
def paxPutsCard : Claim7 := { stood := { row := paxPutsRow, standIns := [], harness := (true, "4fb3968eb57d909d3a9f7655eaa9586fd597101c0cafd47bcacb47ebc18cd12a"), looks := true }, kinds := [], alts := [], laidByText := true, laidKinds := [.handle, .sentinel, .sentinel], laidTests := true, laidLooks := .later }
def PaxPutsCardSaid : Prop := Claim7.holds Tryd.pinned (.plain (OpenSpec.ofChange paxPutsSpec)) paxPutsCard

/-- THE TIED CARD OF 'pleacherlaw09.PaxParts'. -/
def paxPartsCard : Claim7 := { stood := { row := paxPartsRow, standIns := [], harness := (true, "4fb3968eb57d909d3a9f7655eaa9586fd597101c0cafd47bcacb47ebc18cd12a"), looks := true }, kinds := [], alts := [], laidByText := true, laidKinds := [.handle, .sentinel, .sentinel], laidTests := true, laidLooks := .later }
def PaxPartsCardSaid : Prop := Claim7.holds Tryd.pinned (.plain (OpenSpec.ofChange paxPartsSpec)) paxPartsCard

/-- THE TIED CARD OF 'pleacherlaw09.PaxFinds'. -/
def paxFindsCard : Claim7 := { stood := { row := paxFindsRow, standIns := [], harness := (true, "4fb3968eb57d909d3a9f7655eaa9586fd597101c0cafd47bcacb47ebc18cd12a"), looks := true }, kinds := [], alts := [], laidByText := true, laidKinds := [.handle, .sentinel, .sentinel], laidTests := true, laidLooks := .later }
def PaxFindsCardSaid : Prop := Claim7.holds Tryd.pinned (.plain (OpenSpec.ofChange paxFindsSpec)) paxFindsCard

/-- THE SECOND FORM's CARD OF 'pleacherlaw09.PaxGets'. -/
def paxGetsUptoCard : Claim7 := { stood := { row := paxGetsUptoRow, standIns := [], harness := (true, "4fb3968eb57d909d3a9f7655eaa9586fd597101c0cafd47bcacb47ebc18cd12a"), looks := true }, kinds := [], alts := [], laidByText := true, laidKinds := [.handle, .sentinel, .sentinel], laidTests := true, laidLooks := .later }
def PaxGetsUptoCardSaid : Prop := Claim7.holds Tryd.pinned (.plain (OpenSpec.upto paxGetsSpec)) paxGetsUptoCard

/-- THE SECOND FORM's CARD OF 'pleacherlaw09.PaxCounts'. -/
def paxCountsUptoCard : Claim7 := { stood := { row := paxCountsUptoRow, standIns := [], harness := (true, "4fb3968eb57d909d3a9f7655eaa9586fd597101c0cafd47bcacb47ebc18cd12a"), looks := true }, kinds := [], alts := [], laidByText := true, laidKinds := [.handle, .sentinel, .sentinel], laidTests := true, laidLooks := .later }
def PaxCountsUptoCardSaid : Prop := Claim7.holds Tryd.pinned (.plain (OpenSpec.upto paxCountsSpec)) paxCountsUptoCard

/-- THE SECOND FORM's CARD OF 'pleacherlaw09.PaxBack'. -/
def paxBackUptoCard : Claim7 := { stood := { row := paxBackUptoRow, standIns := [], harness := (true, "4fb3968eb57d909d3a9f7655eaa9586fd597101c0cafd47bcacb47ebc18cd12a"), looks := true }, kinds := [], alts := [], laidByText := true, laidKinds := [.handle, .sentinel, .sentinel], laidTests := true, laidLooks := .later }
def PaxBackUptoCardSaid : Prop := Claim7.holds Tryd.pinned (.plain (OpenSpec.upto paxBackSpec)) paxBackUptoCard

/-- THE SECOND FORM's CARD OF 'pleacherlaw09.PaxPuts'. -/
def paxPutsUptoCard : Claim7 := { stood := { row := paxPutsUptoRow, standIns := [], harness := (true, "4fb3968eb57d909d3a9f7655eaa9586fd597101c0cafd47bcacb47ebc18cd12a"), looks := true }, kinds := [], alts := [], laidByText := true, laidKinds := [.handle, .sentinel, .sentinel], laidTests := true, laidLooks := .later }
def PaxPutsUptoCardSaid : Prop := Claim7.holds Tryd.pinned (.plain (OpenSpec.upto paxPutsSpec)) paxPutsUptoCard

/-- THE SECOND FORM's CARD OF 'pleacherlaw09.PaxParts'. -/
def paxPartsUptoCard : Claim7 := { stood := { row := paxPartsUptoRow, standIns := [], harness := (true, "4fb3968eb57d909d3a9f7655eaa9586fd597101c0cafd47bcacb47ebc18cd12a"), looks := true }, kinds := [], alts := [], laidByText := true, laidKinds := [.handle, .sentinel, .sentinel], laidTests := true, laidLooks := .later }
def PaxPartsUptoCardSaid : Prop := Claim7.holds Tryd.pinned (.plain (OpenSpec.upto paxPartsSpec)) paxPartsUptoCard

/-- THE SECOND FORM's CARD OF 'pleacherlaw09.PaxFinds'. -/
def paxFindsUptoCard : Claim7 := { stood := { row := paxFindsUptoRow, standIns := [], harness := (true, "4fb3968eb57d909d3a9f7655eaa9586fd597101c0cafd47bcacb47ebc18cd12a"), looks := true }, kinds := [], alts := [], laidByText := true, laidKinds := [.handle, .sentinel, .sentinel], laidTests := true, laidLooks := .later }
def PaxFindsUptoCardSaid : Prop := Claim7.holds Tryd.pinned (.plain (OpenSpec.upto paxFindsSpec)) paxFindsUptoCard
end Rows
end Go.Proofs.YtbcjhmeeonhmaaaDoor
