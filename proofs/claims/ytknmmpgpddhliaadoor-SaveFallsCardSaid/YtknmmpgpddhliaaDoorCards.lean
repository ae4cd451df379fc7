/-
  DERIVED. GIVEN WITH THE SEED: THE CARDS: each row of YtknmmpgpddhliaaDoorRows.lean that lists a variable, with what it lists TIED to the program's text (the seventh form; the later family's looks); each row that meets fmt, with fmt's text TOLD by the authors' own Lean function (tested against real Go, not proved from fmt's source: count such statements apart). THE CARD IS WHAT COUNTS. Prove the row's statement (the work); the ties are given (YtknmmpgpddhliaaDoorTie.lean); close each card by the builder's one call (the guide's Derived/Test/ToyasCard.lean, 'card_holds'). Laid BY PROGRAM, IN A SANDBOX (cutbox-door.mjs). By AI agents, Wed Nov 11 2026. No macro, syntax, notation, axiom, sorry.
-/
import Derived.Test.YtknmmpgpddhliaaDoorRows
import GoSem.ClaimSeven
namespace Go.Proofs.YtknmmpgpddhliaaDoor
namespace Rows

/-- THE TIED CARD OF 'deaddroplaw24.SaveHas'. -/
def saveHasCard : Claim7 := { stood := { row := saveHasRow, standIns := [], harness := (true, "511343af636495bebe5bb18c5e17032074b9a59f1cc93e4fb1c9d21108fec1e0"), looks := true }, kinds := [], alts := [], laidByText := true, laidKinds := [.handle], laidTests := true, laidLooks := .later }
def SaveHasCardSaid : Prop := Claim7.holds Tryd.pinned (.plain (OpenSpec.ofChange saveHasSpec)) saveHasCard

/-- THE TIED CARD OF 'deaddroplaw24.SaveLarge'. -/
def saveLargeCard : Claim7 := { stood := { row := saveLargeRow, standIns := [], harness := (true, "511343af636495bebe5bb18c5e17032074b9a59f1cc93e4fb1c9d21108fec1e0"), looks := true }, kinds := [], alts := [], laidByText := true, laidKinds := [.handle], laidTests := true, laidLooks := .later }
def SaveLargeCardSaid : Prop := Claim7.holds Tryd.pinned (.plain (OpenSpec.ofChange saveLargeSpec)) saveLargeCard

/-- THE TIED CARD OF 'deaddroplaw24.SaveTwo'. -/
def saveTwoCard : Claim7 := { stood := { row := saveTwoRow, standIns := [], harness := (true, "511343af636495bebe5bb18c5e17032074b9a59f1cc93e4fb1c9d21108fec1e0"), looks := true }, kinds := [], alts := [], laidByText := true, laidKinds := [.handle], laidTests := true, laidLooks := .later }
def SaveTwoCardSaid : Prop := Claim7.holds Tryd.pinned (.plain (OpenSpec.ofChange saveTwoSpec)) saveTwoCard

/-- THE TIED CARD OF 'deaddroplaw24.SaveFalls'. -/
def saveFallsCard : Claim7 := { stood := { row := saveFallsRow, standIns := [], harness := (true, "511343af636495bebe5bb18c5e17032074b9a59f1cc93e4fb1c9d21108fec1e0"), looks := true }, kinds := [], alts := [], laidByText := true, laidKinds := [.handle], laidTests := true, laidLooks := .later }
def SaveFallsCardSaid : Prop := Claim7.holds Tryd.pinned (.plain (OpenSpec.ofChange saveFallsSpec)) saveFallsCard

/-- THE TIED CARD OF 'deaddroplaw24.SaveTorn'. -/
def saveTornCard : Claim7 := { stood := { row := saveTornRow, standIns := [], harness := (true, "511343af636495bebe5bb18c5e17032074b9a59f1cc93e4fb1c9d21108fec1e0"), looks := true }, kinds := [], alts := [], laidByText := true, laidKinds := [.handle], laidTests := true, laidLooks := .later }
def SaveTornCardSaid : Prop := Claim7.holds Tryd.pinned (.plain (OpenSpec.ofChange saveTornSpec)) saveTornCard

/-- THE SECOND FORM's CARD OF 'deaddroplaw24.SaveHas'. -/
def saveHasUptoCard : Claim7 := { stood := { row := saveHasUptoRow, standIns := [], harness := (true, "511343af636495bebe5bb18c5e17032074b9a59f1cc93e4fb1c9d21108fec1e0"), looks := true }, kinds := [], alts := [], laidByText := true, laidKinds := [.handle], laidTests := true, laidLooks := .later }
def SaveHasUptoCardSaid : Prop := Claim7.holds Tryd.pinned (.plain (OpenSpec.upto saveHasSpec)) saveHasUptoCard

/-- THE SECOND FORM's CARD OF 'deaddroplaw24.SaveLarge'. -/
def saveLargeUptoCard : Claim7 := { stood := { row := saveLargeUptoRow, standIns := [], harness := (true, "511343af636495bebe5bb18c5e17032074b9a59f1cc93e4fb1c9d21108fec1e0"), looks := true }, kinds := [], alts := [], laidByText := true, laidKinds := [.handle], laidTests := true, laidLooks := .later }
def SaveLargeUptoCardSaid : Prop := Claim7.holds Tryd.pinned (.plain (OpenSpec.upto saveLargeSpec)) saveLargeUptoCard

/-- THE SECOND FORM's CARD OF 'deaddroplaw24.SaveTwo'. -/
def saveTwoUptoCard : Claim7 := { stood := { row := saveTwoUptoRow, standIns := [], harness := (true, "511343af636495bebe5bb18c5e17032074b9a59f1cc93e4fb1c9d21108fec1e0"), looks := true }, kinds := [], alts := [], laidByText := true, laidKinds := [.handle], laidTests := true, laidLooks := .later }
def SaveTwoUptoCardSaid : Prop := Claim7.holds Tryd.pinned (.plain (OpenSpec.upto saveTwoSpec)) saveTwoUptoCard

/-- THE SECOND FORM's CARD OF 'deaddroplaw24.SaveFalls'. -/
def saveFallsUptoCard : Claim7 := { stood := { row := saveFallsUptoRow, standIns := [], harness := (true, "511343af636495bebe5bb18c5e17032074b9a59f1cc93e4fb1c9d21108fec1e0"), looks := true }, kinds := [], alts := [], laidByText := true, laidKinds := [.handle], laidTests := true, laidLooks := .later }
def SaveFallsUptoCardSaid : Prop := Claim7.holds Tryd.pinned (.plain (OpenSpec.upto saveFallsSpec)) saveFallsUptoCard

/-- THE SECOND FORM's CARD OF 'deaddroplaw24.SaveTorn'. -/
def saveTornUptoCard : Claim7 := { stood := { row := saveTornUptoRow, standIns := [], harness := (true, "511343af636495bebe5bb18c5e17032074b9a59f1cc93e4fb1c9d21108fec1e0"), looks := true }, kinds := [], alts := [], laidByText := true, laidKinds := [.handle], laidTests := true, laidLooks := .later }
def SaveTornUptoCardSaid : Prop := Claim7.holds Tryd.pinned (.plain (OpenSpec.upto saveTornSpec)) saveTornUptoCard
end Rows
end Go.Proofs.YtknmmpgpddhliaaDoor
