/-
  DERIVED. GIVEN WITH THE SEED: THE CARDS: each row of YtpkjdjhojbadhaaGreatDoorRows.lean that lists a variable, with what it lists TIED to the program's text (the seventh form; the later family's looks); each row that meets fmt, with fmt's text TOLD by the authors' own Lean function (tested against real Go, not proved from fmt's source: count such statements apart). THE CARD IS WHAT COUNTS. Prove the row's statement (the work); the ties are given (YtpkjdjhojbadhaaGreatDoorTie.lean); close each card by the builder's one call (the guide's Derived/Test/ToyasCard.lean, 'card_holds'). Laid BY PROGRAM, IN A SANDBOX (cutbox-door.mjs). By AI agents, Wed Nov 11 2026. No macro, syntax, notation, axiom, sorry.
-/
import Derived.Test.YtpkjdjhojbadhaaGreatDoorRows
import GoSem.ClaimSeven
namespace Go.Proofs.YtpkjdjhojbadhaaGreatDoor
namespace Rows

/-- THE TIED CARD OF 'sawtoothtop.TopReaches'. -/
def topReachesCard : Claim7 := { stood := { row := topReachesRow, standIns := [], harness := (true, "7aa95e2fa280443419eaf65ce30c384eae127d804d2e6dba326d571e2551a399"), looks := true }, kinds := [], alts := [], laidByText := true, laidKinds := [.data], laidTests := true, laidLooks := .later }
def TopReachesCardSaid : Prop := Claim7.holds Tryz.pinned (.plain (OpenSpec.ofChange topReachesSpec)) topReachesCard

/-- THE SECOND FORM's CARD OF 'sawtoothtop.TopReaches'. -/
def topReachesUptoCard : Claim7 := { stood := { row := topReachesUptoRow, standIns := [], harness := (true, "7aa95e2fa280443419eaf65ce30c384eae127d804d2e6dba326d571e2551a399"), looks := true }, kinds := [], alts := [], laidByText := true, laidKinds := [.data], laidTests := true, laidLooks := .later }
def TopReachesUptoCardSaid : Prop := Claim7.holds Tryz.pinned (.plain (OpenSpec.upto topReachesSpec)) topReachesUptoCard
end Rows
end Go.Proofs.YtpkjdjhojbadhaaGreatDoor
