/-
  DERIVED. GIVEN WITH THE SEED: THE CARDS: each row of YtbcjhmeeonhmaaaGreatDoorRows.lean that lists a variable, with what it lists TIED to the program's text (the seventh form; the later family's looks); each row that meets fmt, with fmt's text TOLD by the authors' own Lean function (tested against real Go, not proved from fmt's source: count such statements apart). THE CARD IS WHAT COUNTS. Prove the row's statement (the work); the ties are given (YtbcjhmeeonhmaaaGreatDoorTie.lean); close each card by the builder's one call (the guide's Derived/Test/ToyasCard.lean, 'card_holds'). Laid BY PROGRAM, IN A SANDBOX (cutbox-door.mjs). By AI agents, Wed Nov 11 2026. No macro, syntax, notation, axiom, sorry.
-/
import Derived.Test.YtbcjhmeeonhmaaaGreatDoorRows
import GoSem.ClaimSeven
namespace Go.Proofs.YtbcjhmeeonhmaaaGreatDoor
namespace Rows

/-- THE TIED CARD OF 'pleacherlaw04.EscapeGets'. -/
def escapeGetsCard : Claim7 := { stood := { row := escapeGetsRow, standIns := [], harness := (true, "924ac1d02b61261964437f97c66e8d130e076f9e9c4c5880921d724f91829a11"), looks := true }, kinds := [], alts := [], laidByText := true, laidKinds := [.handle, .sentinel, .sentinel], laidTests := true, laidLooks := .later }
def EscapeGetsCardSaid : Prop := Claim7.holds Tryz.pinned (.plain (OpenSpec.ofChange escapeGetsSpec)) escapeGetsCard

/-- THE TIED CARD OF 'pleacherlaw04.EscapeJoins'. -/
def escapeJoinsCard : Claim7 := { stood := { row := escapeJoinsRow, standIns := [], harness := (true, "924ac1d02b61261964437f97c66e8d130e076f9e9c4c5880921d724f91829a11"), looks := true }, kinds := [], alts := [], laidByText := true, laidKinds := [.handle, .sentinel, .sentinel], laidTests := true, laidLooks := .later }
def EscapeJoinsCardSaid : Prop := Claim7.holds Tryz.pinned (.plain (OpenSpec.ofChange escapeJoinsSpec)) escapeJoinsCard

/-- THE TIED CARD OF 'pleacherlaw04.EscapeRefs'. -/
def escapeRefsCard : Claim7 := { stood := { row := escapeRefsRow, standIns := [], harness := (true, "924ac1d02b61261964437f97c66e8d130e076f9e9c4c5880921d724f91829a11"), looks := true }, kinds := [], alts := [], laidByText := true, laidKinds := [.handle, .sentinel, .sentinel], laidTests := true, laidLooks := .later }
def EscapeRefsCardSaid : Prop := Claim7.holds Tryz.pinned (.plain (OpenSpec.ofChange escapeRefsSpec)) escapeRefsCard

/-- THE TIED CARD OF 'pleacherlaw04.EscapePlain'. -/
def escapePlainCard : Claim7 := { stood := { row := escapePlainRow, standIns := [], harness := (true, "924ac1d02b61261964437f97c66e8d130e076f9e9c4c5880921d724f91829a11"), looks := true }, kinds := [], alts := [], laidByText := true, laidKinds := [.handle, .sentinel, .sentinel], laidTests := true, laidLooks := .later }
def EscapePlainCardSaid : Prop := Claim7.holds Tryz.pinned (.plain (OpenSpec.ofChange escapePlainSpec)) escapePlainCard

/-- THE TIED CARD OF 'pleacherlaw04.EscapeBack'. -/
def escapeBackCard : Claim7 := { stood := { row := escapeBackRow, standIns := [], harness := (true, "924ac1d02b61261964437f97c66e8d130e076f9e9c4c5880921d724f91829a11"), looks := true }, kinds := [], alts := [], laidByText := true, laidKinds := [.handle, .sentinel, .sentinel], laidTests := true, laidLooks := .later }
def EscapeBackCardSaid : Prop := Claim7.holds Tryz.pinned (.plain (OpenSpec.ofChange escapeBackSpec)) escapeBackCard

/-- THE TIED CARD OF 'pleacherlaw04.EscapeLines'. -/
def escapeLinesCard : Claim7 := { stood := { row := escapeLinesRow, standIns := [], harness := (true, "924ac1d02b61261964437f97c66e8d130e076f9e9c4c5880921d724f91829a11"), looks := true }, kinds := [], alts := [], laidByText := true, laidKinds := [.data, .handle, .sentinel, .sentinel, .pinned], laidTests := true, laidLooks := .later }
def EscapeLinesCardSaid : Prop := Claim7.holds Tryz.pinned (.plain (OpenSpec.ofChange escapeLinesSpec)) escapeLinesCard

/-- THE TIED CARD OF 'pleacherlaw04.EscapePuts'. -/
def escapePutsCard : Claim7 := { stood := { row := escapePutsRow, standIns := [], harness := (true, "924ac1d02b61261964437f97c66e8d130e076f9e9c4c5880921d724f91829a11"), looks := true }, kinds := [], alts := [], laidByText := true, laidKinds := [.data, .handle, .sentinel, .sentinel, .pinned], laidTests := true, laidLooks := .later }
def EscapePutsCardSaid : Prop := Claim7.holds Tryz.pinned (.plain (OpenSpec.ofChange escapePutsSpec)) escapePutsCard

/-- THE SECOND FORM's CARD OF 'pleacherlaw04.EscapeGets'. -/
def escapeGetsUptoCard : Claim7 := { stood := { row := escapeGetsUptoRow, standIns := [], harness := (true, "924ac1d02b61261964437f97c66e8d130e076f9e9c4c5880921d724f91829a11"), looks := true }, kinds := [], alts := [], laidByText := true, laidKinds := [.handle, .sentinel, .sentinel], laidTests := true, laidLooks := .later }
def EscapeGetsUptoCardSaid : Prop := Claim7.holds Tryz.pinned (.plain (OpenSpec.upto escapeGetsSpec)) escapeGetsUptoCard

/-- THE SECOND FORM's CARD OF 'pleacherlaw04.EscapeJoins'. -/
def escapeJoinsUptoCard : Claim7 := { stood := { row := escapeJoinsUptoRow, standIns := [], harness := (true, "924ac1d02b61261964437f97c66e8d130e076f9e9c4c5880921d724f91829a11"), looks := true }, kinds := [], alts := [], laidByText := true, laidKinds := [.handle, .sentinel, .sentinel], laidTests := true, laidLooks := .later }
def EscapeJoinsUptoCardSaid : Prop := Claim7.holds Tryz.pinned (.plain (OpenSpec.upto escapeJoinsSpec)) escapeJoinsUptoCard

/-- THE SECOND FORM's CARD OF 'pleacherlaw04.EscapeRefs'. -/
def escapeRefsUptoCard : Claim7 := { stood := { row := escapeRefsUptoRow, standIns := [], harness := (true, "924ac1d02b61261964437f97c66e8d130e076f9e9c4c5880921d724f91829a11"), looks := true }, kinds := [], alts := [], laidByText := true, laidKinds := [.handle, .sentinel, .sentinel], laidTests := true, laidLooks := .later }
def EscapeRefsUptoCardSaid : Prop := Claim7.holds Tryz.pinned (.plain (OpenSpec.upto escapeRefsSpec)) escapeRefsUptoCard

/-- THE SECOND FORM's CARD OF 'pleacherlaw04.EscapePlain'. -/
def escapePlainUptoCard : Claim7 := { stood := { row := escapePlainUptoRow, standIns := [], harness := (true, "924ac1d02b61261964437f97c66e8d130e076f9e9c4c5880921d724f91829a11"), looks := true }, kinds := [], alts := [], laidByText := true, laidKinds := [.handle, .sentinel, .sentinel], laidTests := true, laidLooks := .later }
def EscapePlainUptoCardSaid : Prop := Claim7.holds Tryz.pinned (.plain (OpenSpec.upto escapePlainSpec)) escapePlainUptoCard

/-- THE SECOND FORM's CARD OF 'pleacherlaw04.EscapeBack'. -/
def escapeBackUptoCard : Claim7 := { stood := { row := escapeBackUptoRow, standIns := [], harness := (true, "924ac1d02b61261964437f97c66e8d130e076f9e9c4c5880921d724f91829a11"), looks := true }, kinds := [], alts := [], laidByText := true, laidKinds := [.handle, .sentinel, .sentinel], laidTests := true, laidLooks := .later }
def EscapeBackUptoCardSaid : Prop := Claim7.holds Tryz.pinned (.plain (OpenSpec.upto escapeBackSpec)) escapeBackUptoCard

/-- THE SECOND FORM's CARD OF 'pleacherlaw04.EscapeLines'. -/
def escapeLinesUptoCard : Claim7 := { stood := { row := escapeLinesUptoRow, standIns := [], harness := (true, "924ac1d02b61261964437f97c66e8d130e076f9e9c4c5880921d724f91829a11"), looks := true }, kinds := [], alts := [], laidByText := true, laidKinds := [.data, .handle, .sentinel, .sentinel, .pinned], laidTests := true, laidLooks := .later }
def EscapeLinesUptoCardSaid : Prop := Claim7.holds Tryz.pinned (.plain (OpenSpec.upto escapeLinesSpec)) escapeLinesUptoCard

/-- THE SECOND FORM's CARD OF 'pleacherlaw04.EscapePuts'. -/
def escapePutsUptoCard : Claim7 := { stood := { row := escapePutsUptoRow, standIns := [], harness := (true, "924ac1d02b61261964437f97c66e8d130e076f9e9c4c5880921d724f91829a11"), looks := true }, kinds := [], alts := [], laidByText := true, laidKinds := [.data, .handle, .sentinel, .sentinel, .pinned], laidTests := true, laidLooks := .later }
def EscapePutsUptoCardSaid : Prop := Claim7.holds Tryz.pinned (.plain (OpenSpec.upto escapePutsSpec)) escapePutsUptoCard
end Rows
end Go.Proofs.YtbcjhmeeonhmaaaGreatDoor
