/-
  DERIVED. GIVEN WITH THE SEED: THE CARDS: each row of YtljafcmealiifaaGreatDoorRows.lean that lists a variable, with what it lists TIED to the program's text (the seventh form; the later family's looks); each row that meets fmt, with fmt's text TOLD by the authors' own Lean function (tested against real Go, not proved from fmt's source: count such statements apart). THE CARD IS WHAT COUNTS. Prove the row's statement (the work); the ties are given (YtljafcmealiifaaGreatDoorTie.lean); close each card by the builder's one call (the guide's Derived/Test/ToyasCard.lean, 'card_holds'). Laid BY PROGRAM, IN A SANDBOX (cutbox-door.mjs). By AI agents, Wed Nov 11 2026. No macro, syntax, notation, axiom, sorry.
-/
import Derived.Test.YtljafcmealiifaaGreatDoorRows
import GoSem.ClaimSeven
namespace Go.Proofs.YtljafcmealiifaaGreatDoor
namespace Rows

/-- THE TIED CARD OF 'lensletlaw02.PupilMoments'. -/
def pupilMomentsCard : Claim7 := { stood := { row := pupilMomentsRow, standIns := [], harness := (true, "0bc63d627b913e700f223190d193b3bb01392efcaca7a8a14e846a0ff94fd5d5"), looks := true }, kinds := [], alts := [], laidByText := true, laidKinds := [.data, .data, .data, .data, .sentinel, .sentinel, .data, .pinned], laidTests := true, laidLooks := .later }
def PupilMomentsCardSaid : Prop := Claim7.holds Tryz.pinned (.plain (OpenSpec.ofChange pupilMomentsSpec)) pupilMomentsCard

/-- THE SECOND FORM's CARD OF 'lensletlaw02.PupilMoments'. -/
def pupilMomentsUptoCard : Claim7 := { stood := { row := pupilMomentsUptoRow, standIns := [], harness := (true, "0bc63d627b913e700f223190d193b3bb01392efcaca7a8a14e846a0ff94fd5d5"), looks := true }, kinds := [], alts := [], laidByText := true, laidKinds := [.data, .data, .data, .data, .sentinel, .sentinel, .data, .pinned], laidTests := true, laidLooks := .later }
def PupilMomentsUptoCardSaid : Prop := Claim7.holds Tryz.pinned (.plain (OpenSpec.upto pupilMomentsSpec)) pupilMomentsUptoCard
end Rows
end Go.Proofs.YtljafcmealiifaaGreatDoor
