/-
  DERIVED. GIVEN WITH THE SEED: THE CARDS: each row of YtppicdhlpdhoiaaDoorRows.lean that lists a variable, with what it lists TIED to the program's text (the seventh form; the later family's looks); each row that meets fmt, with fmt's text TOLD by the authors' own Lean function (tested against real Go, not proved from fmt's source: count such statements apart). THE CARD IS WHAT COUNTS. Prove the row's statement (the work); the ties are given (YtppicdhlpdhoiaaDoorTie.lean); close each card by the builder's one call (the guide's Derived/Test/ToyasCard.lean, 'card_holds'). Laid BY PROGRAM, IN A SANDBOX (cutbox-door.mjs). By AI agents, Wed Nov 11 2026. No macro, syntax, notation, axiom, sorry.
-/
import Derived.Test.YtppicdhlpdhoiaaDoorRows
import GoSem.ClaimSeven
namespace Go.Proofs.YtppicdhlpdhoiaaDoor
namespace Rows

/-- THE TIED CARD OF 'deaddroplaw13.SnapBack'. -/
def snapBackCard : Claim7 := { stood := { row := snapBackRow, standIns := [], harness := (true, "d1831c662c9742b77dbdc98c911c30509851ac65792b09911d85ea2eedcffa5e"), looks := true }, kinds := [], alts := [], laidByText := true, laidKinds := [.handle], laidTests := true, laidLooks := .later }
def SnapBackCardSaid : Prop := Claim7.holds Tryd.pinned (.plain (OpenSpec.ofChange snapBackSpec)) snapBackCard

/-- THE TIED CARD OF 'deaddroplaw13.SnapSize'. -/
def snapSizeCard : Claim7 := { stood := { row := snapSizeRow, standIns := [], harness := (true, "d1831c662c9742b77dbdc98c911c30509851ac65792b09911d85ea2eedcffa5e"), looks := true }, kinds := [], alts := [], laidByText := true, laidKinds := [.handle], laidTests := true, laidLooks := .later }
def SnapSizeCardSaid : Prop := Claim7.holds Tryd.pinned (.plain (OpenSpec.ofChange snapSizeSpec)) snapSizeCard

/-- THE TIED CARD OF 'deaddroplaw13.SnapMay'. -/
def snapMayCard : Claim7 := { stood := { row := snapMayRow, standIns := [], harness := (true, "d1831c662c9742b77dbdc98c911c30509851ac65792b09911d85ea2eedcffa5e"), looks := true }, kinds := [], alts := [], laidByText := true, laidKinds := [.handle], laidTests := true, laidLooks := .later }
def SnapMayCardSaid : Prop := Claim7.holds Tryd.pinned (.plain (OpenSpec.ofChange snapMaySpec)) snapMayCard

/-- THE SECOND FORM's CARD OF 'deaddroplaw13.SnapBack'. -/
def snapBackUptoCard : Claim7 := { stood := { row := snapBackUptoRow, standIns := [], harness := (true, "d1831c662c9742b77dbdc98c911c30509851ac65792b09911d85ea2eedcffa5e"), looks := true }, kinds := [], alts := [], laidByText := true, laidKinds := [.handle], laidTests := true, laidLooks := .later }
def SnapBackUptoCardSaid : Prop := Claim7.holds Tryd.pinned (.plain (OpenSpec.upto snapBackSpec)) snapBackUptoCard

/-- THE SECOND FORM's CARD OF 'deaddroplaw13.SnapSize'. -/
def snapSizeUptoCard : Claim7 := { stood := { row := snapSizeUptoRow, standIns := [], harness := (true, "d1831c662c9742b77dbdc98c911c30509851ac65792b09911d85ea2eedcffa5e"), looks := true }, kinds := [], alts := [], laidByText := true, laidKinds := [.handle], laidTests := true, laidLooks := .later }
def SnapSizeUptoCardSaid : Prop := Claim7.holds Tryd.pinned (.plain (OpenSpec.upto snapSizeSpec)) snapSizeUptoCard

/-- THE SECOND FORM's CARD OF 'deaddroplaw13.SnapMay'. -/
def snapMayUptoCard : Claim7 := { stood := { row := snapMayUptoRow, standIns := [], harness := (true, "d1831c662c9742b77dbdc98c911c30509851ac65792b09911d85ea2eedcffa5e"), looks := true }, kinds := [], alts := [], laidByText := true, laidKinds := [.handle], laidTests := true, laidLooks := .later }
def SnapMayUptoCardSaid : Prop := Claim7.holds Tryd.pinned (.plain (OpenSpec.upto snapMaySpec)) snapMayUptoCard
end Rows
end Go.Proofs.YtppicdhlpdhoiaaDoor
