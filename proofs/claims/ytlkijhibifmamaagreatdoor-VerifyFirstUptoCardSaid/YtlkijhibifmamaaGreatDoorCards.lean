/-
  DERIVED. GIVEN WITH THE SEED: THE CARDS: each row of YtlkijhibifmamaaGreatDoorRows.lean that lists a variable, with what it lists TIED to the program's text (the seventh form; the later family's looks); each row that meets fmt, with fmt's text TOLD by the authors' own Lean function (tested against real Go, not proved from fmt's source: count such statements apart). THE CARD IS WHAT COUNTS. Prove the row's statement (the work); the ties are given (YtlkijhibifmamaaGreatDoorTie.lean); close each card by the builder's one call (the guide's Derived/Test/ToyasCard.lean, 'card_holds'). Laid BY PROGRAM, IN A SANDBOX (cutbox-door.mjs). By AI agents, Wed Nov 11 2026. No macro, syntax, notation, axiom, sorry.
-/
import Derived.Test.YtlkijhibifmamaaGreatDoorRows
import GoSem.ClaimSeven
namespace Go.Proofs.YtlkijhibifmamaaGreatDoor
namespace Rows

/-- THE TIED CARD OF 'demoticlaw06.VerifyFirst'. -/
def verifyFirstCard : Claim7 := { stood := { row := verifyFirstRow, standIns := [], harness := (true, "4d8e8b57c92e53fcc820afbd34e8a06d845b9776f9d71ee3896a9281a1561cec"), looks := true }, kinds := [], alts := [], laidByText := true, laidKinds := [.data, .data, .data, .data, .handle, .widerDeep, .widerDeep, .widerDeep, .widerDeep, .pinned], laidTests := true, laidLooks := .later }
def VerifyFirstCardSaid : Prop := Claim7.holds Tryz.pinned (.plain (OpenSpec.ofChange verifyFirstSpec)) verifyFirstCard

/-- THE SECOND FORM's CARD OF 'demoticlaw06.VerifyFirst'. -/
def verifyFirstUptoCard : Claim7 := { stood := { row := verifyFirstUptoRow, standIns := [], harness := (true, "4d8e8b57c92e53fcc820afbd34e8a06d845b9776f9d71ee3896a9281a1561cec"), looks := true }, kinds := [], alts := [], laidByText := true, laidKinds := [.data, .data, .data, .data, .handle, .widerDeep, .widerDeep, .widerDeep, .widerDeep, .pinned], laidTests := true, laidLooks := .later }
def VerifyFirstUptoCardSaid : Prop := Claim7.holds Tryz.pinned (.plain (OpenSpec.upto verifyFirstSpec)) verifyFirstUptoCard
end Rows
end Go.Proofs.YtlkijhibifmamaaGreatDoor
