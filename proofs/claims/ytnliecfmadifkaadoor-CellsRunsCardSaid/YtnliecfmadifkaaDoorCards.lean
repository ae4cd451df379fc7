/-
  DERIVED. GIVEN WITH THE SEED: THE CARDS: each row of YtnliecfmadifkaaDoorRows.lean that lists a variable, with what it lists TIED to the program's text (the seventh form; the later family's looks); each row that meets fmt, with fmt's text TOLD by the authors' own Lean function (tested against real Go, not proved from fmt's source: count such statements apart). THE CARD IS WHAT COUNTS. Prove the row's statement (the work); the ties are given (YtnliecfmadifkaaDoorTie.lean); close each card by the builder's one call (the guide's Derived/Test/ToyasCard.lean, 'card_holds'). Laid BY PROGRAM, IN A SANDBOX (cutbox-door.mjs). By AI agents, Wed Nov 11 2026. No macro, syntax, notation, axiom, sorry.
-/
import Derived.Test.YtnliecfmadifkaaDoorRows
import GoSem.ClaimSeven
namespace Go.Proofs.YtnliecfmadifkaaDoor
namespace Rows

/-- THE TIED CARD OF 'deaddroplaw23.CellsTwo'. -/
def cellsTwoCard : Claim7 := { stood := { row := cellsTwoRow, standIns := [], harness := (true, "1685b9f3ef339d900634bb47aa6d102547dc1d4cb13639953e0edd84f0f6fd7e"), looks := true }, kinds := [], alts := [], laidByText := true, laidKinds := [.handle], laidTests := true, laidLooks := .later }
def CellsTwoCardSaid : Prop := Claim7.holds Tryd.pinned (.plain (OpenSpec.ofChange cellsTwoSpec)) cellsTwoCard

/-- THE TIED CARD OF 'deaddroplaw23.CellsFalls'. -/
def cellsFallsCard : Claim7 := { stood := { row := cellsFallsRow, standIns := [], harness := (true, "1685b9f3ef339d900634bb47aa6d102547dc1d4cb13639953e0edd84f0f6fd7e"), looks := true }, kinds := [], alts := [], laidByText := true, laidKinds := [.handle], laidTests := true, laidLooks := .later }
def CellsFallsCardSaid : Prop := Claim7.holds Tryd.pinned (.plain (OpenSpec.ofChange cellsFallsSpec)) cellsFallsCard

/-- THE TIED CARD OF 'deaddroplaw23.CellsRuns'. -/
def cellsRunsCard : Claim7 := { stood := { row := cellsRunsRow, standIns := [], harness := (true, "1685b9f3ef339d900634bb47aa6d102547dc1d4cb13639953e0edd84f0f6fd7e"), looks := true }, kinds := [], alts := [], laidByText := true, laidKinds := [.handle], laidTests := true, laidLooks := .later }
def CellsRunsCardSaid : Prop := Claim7.holds Tryd.pinned (.plain (OpenSpec.ofChange cellsRunsSpec)) cellsRunsCard

/-- THE TIED CARD OF 'deaddroplaw23.CellsTear'. -/
def cellsTearCard : Claim7 := { stood := { row := cellsTearRow, standIns := [], harness := (true, "1685b9f3ef339d900634bb47aa6d102547dc1d4cb13639953e0edd84f0f6fd7e"), looks := true }, kinds := [], alts := [], laidByText := true, laidKinds := [.handle], laidTests := true, laidLooks := .later }
def CellsTearCardSaid : Prop := Claim7.holds Tryd.pinned (.plain (OpenSpec.ofChange cellsTearSpec)) cellsTearCard

/-- THE SECOND FORM's CARD OF 'deaddroplaw23.CellsTwo'. -/
def cellsTwoUptoCard : Claim7 := { stood := { row := cellsTwoUptoRow, standIns := [], harness := (true, "1685b9f3ef339d900634bb47aa6d102547dc1d4cb13639953e0edd84f0f6fd7e"), looks := true }, kinds := [], alts := [], laidByText := true, laidKinds := [.handle], laidTests := true, laidLooks := .later }
def CellsTwoUptoCardSaid : Prop := Claim7.holds Tryd.pinned (.plain (OpenSpec.upto cellsTwoSpec)) cellsTwoUptoCard

/-- THE SECOND FORM's CARD OF 'deaddroplaw23.CellsFalls'. -/
def cellsFallsUptoCard : Claim7 := { stood := { row := cellsFallsUptoRow, standIns := [], harness := (true, "1685b9f3ef339d900634bb47aa6d102547dc1d4cb13639953e0edd84f0f6fd7e"), looks := true }, kinds := [], alts := [], laidByText := true, laidKinds := [.handle], laidTests := true, laidLooks := .later }
def CellsFallsUptoCardSaid : Prop := Claim7.holds Tryd.pinned (.plain (OpenSpec.upto cellsFallsSpec)) cellsFallsUptoCard

/-- THE SECOND FORM's CARD OF 'deaddroplaw23.CellsRuns'. -/
def cellsRunsUptoCard : Claim7 := { stood := { row := cellsRunsUptoRow, standIns := [], harness := (true, "1685b9f3ef339d900634bb47aa6d102547dc1d4cb13639953e0edd84f0f6fd7e"), looks := true }, kinds := [], alts := [], laidByText := true, laidKinds := [.handle], laidTests := true, laidLooks := .later }
def CellsRunsUptoCardSaid : Prop := Claim7.holds Tryd.pinned (.plain (OpenSpec.upto cellsRunsSpec)) cellsRunsUptoCard

/-- THE SECOND FORM's CARD OF 'deaddroplaw23.CellsTear'. -/
def cellsTearUptoCard : Claim7 := { stood := { row := cellsTearUptoRow, standIns := [], harness := (true, "1685b9f3ef339d900634bb47aa6d102547dc1d4cb13639953e0edd84f0f6fd7e"), looks := true }, kinds := [], alts := [], laidByText := true, laidKinds := [.handle], laidTests := true, laidLooks := .later }
def CellsTearUptoCardSaid : Prop := Claim7.holds Tryd.pinned (.plain (OpenSpec.upto cellsTearSpec)) cellsTearUptoCard
end Rows
end Go.Proofs.YtnliecfmadifkaaDoor
