/-
  DERIVED. GIVEN WITH THE SEED: THE CARDS: each row of YtppicdhlpdhoiaaGreatDoorRows.lean that lists a variable, with what it lists TIED to the program's text (the seventh form; the later family's looks); each row that meets fmt, with fmt's text TOLD by the authors' own Lean function (tested against real Go, not proved from fmt's source: count such statements apart). THE CARD IS WHAT COUNTS. Prove the row's statement (the work); the ties are given (YtppicdhlpdhoiaaGreatDoorTie.lean); close each card by the builder's one call (the guide's Derived/Test/ToyasCard.lean, 'card_holds'). Laid BY PROGRAM, IN A SANDBOX (cutbox-door.mjs). By AI agents, Wed Nov 11 2026. No macro, syntax, notation, axiom, sorry.
-/
import Derived.Test.YtppicdhlpdhoiaaGreatDoorRows
import GoSem.ClaimSeven
namespace Go.Proofs.YtppicdhlpdhoiaaGreatDoor
namespace Rows

/-- THE TIED CARD OF 'deaddroplaw13.SnapAll'. -/
def snapAllCard : Claim7 := { stood := { row := snapAllRow, standIns := [], harness := (true, "39909e2147cb5709177891e5b2d3413c142782be21e87b5b46eec481fa3c1239"), looks := true }, kinds := [], alts := [], laidByText := true, laidKinds := [.handle], laidTests := true, laidLooks := .later }
def SnapAllCardSaid : Prop := Claim7.holds Tryz.pinned (.plain (OpenSpec.ofChange snapAllSpec)) snapAllCard

/-- THE SECOND FORM's CARD OF 'deaddroplaw13.SnapAll'. -/
def snapAllUptoCard : Claim7 := { stood := { row := snapAllUptoRow, standIns := [], harness := (true, "39909e2147cb5709177891e5b2d3413c142782be21e87b5b46eec481fa3c1239"), looks := true }, kinds := [], alts := [], laidByText := true, laidKinds := [.handle], laidTests := true, laidLooks := .later }
def SnapAllUptoCardSaid : Prop := Claim7.holds Tryz.pinned (.plain (OpenSpec.upto snapAllSpec)) snapAllUptoCard
end Rows
end Go.Proofs.YtppicdhlpdhoiaaGreatDoor
