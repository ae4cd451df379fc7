/-
  DERIVED. GIVEN WITH THE SEED: THE CARDS: each row of YtihkemlgdfjmjaaDoorRows.lean that lists a variable, with what it lists TIED to the program's text (the seventh form; the later family's looks); each row that meets fmt, with fmt's text TOLD by the authors' own Lean function (tested against real Go, not proved from fmt's source: count such statements apart). THE CARD IS WHAT COUNTS. Prove the row's statement (the work); the ties are given (YtihkemlgdfjmjaaDoorTie.lean); close each card by the builder's one call (the guide's Derived/Test/ToyasCard.lean, 'card_holds'). Laid BY PROGRAM, IN A SANDBOX (cutbox-door.mjs). By AI agents, Wed Nov 11 2026. No macro, syntax, notation, axiom, sorry.
-/
import Derived.Test.YtihkemlgdfjmjaaDoorRows
import GoSem.ClaimSeven
namespace Go.Proofs.YtihkemlgdfjmjaaDoor
namespace Rows

/-- THE TIED CARD OF 'deaddroplaw14.KeysNonces'. -/
def keysNoncesCard : Claim7 := { stood := { row := keysNoncesRow, standIns := [], harness := (true, "268d8a48bc1ce60dc452025d3c79c002ea316379f442db596b617c2e9eb976f9"), looks := true }, kinds := [], alts := [], laidByText := true, laidKinds := [.data, .data, .data], laidTests := true, laidLooks := .later }
def KeysNoncesCardSaid : Prop := Claim7.holds Tryd.pinned (.plain (OpenSpec.ofChange keysNoncesSpec)) keysNoncesCard

/-- THE TIED CARD OF 'deaddroplaw14.KeysAll'. -/
def keysAllCard : Claim7 := { stood := { row := keysAllRow, standIns := [], harness := (true, "268d8a48bc1ce60dc452025d3c79c002ea316379f442db596b617c2e9eb976f9"), looks := true }, kinds := [], alts := [], laidByText := true, laidKinds := [.data, .data, .data], laidTests := true, laidLooks := .later }
def KeysAllCardSaid : Prop := Claim7.holds Tryd.pinned (.plain (OpenSpec.ofChange keysAllSpec)) keysAllCard

/-- THE TIED CARD OF 'deaddroplaw14.KeysDerived'. -/
def keysDerivedCard : Claim7 := { stood := { row := keysDerivedRow, standIns := [], harness := (true, "268d8a48bc1ce60dc452025d3c79c002ea316379f442db596b617c2e9eb976f9"), looks := true }, kinds := [], alts := [], laidByText := true, laidKinds := [.data, .data, .data], laidTests := true, laidLooks := .later }
def KeysDerivedCardSaid : Prop := Claim7.holds Tryd.pinned (.plain (OpenSpec.ofChange keysDerivedSpec)) keysDerivedCard

/-- THE SECOND FORM's CARD OF 'deaddroplaw14.KeysNonces'. -/
def keysNoncesUptoCard : Claim7 := { stood := { row := keysNoncesUptoRow, standIns := [], harness := (true, "268d8a48bc1ce60dc452025d3c79c002ea316379f442db596b617c2e9eb976f9"), looks := true }, kinds := [], alts := [], laidByText := true, laidKinds := [.data, .data, .data], laidTests := true, laidLooks := .later }
def KeysNoncesUptoCardSaid : Prop := Claim7.holds Tryd.pinned (.plain (OpenSpec.upto keysNoncesSpec)) keysNoncesUptoCard

/-- THE SECOND FORM's CARD OF 'deaddroplaw14.KeysAll'. -/
def keysAllUptoCard : Claim7 := { stood := { row := keysAllUptoRow, standIns := [], harness := (true, "268d8a48bc1ce60dc452025d3c79c002ea316379f442db596b617c2e9eb976f9"), looks := true }, kinds := [], alts := [], laidByText := true, laidKinds := [.data, .data, .data], laidTests := true, laidLooks := .later }
def KeysAllUptoCardSaid : Prop := Claim7.holds Tryd.pinned (.plain (OpenSpec.upto keysAllSpec)) keysAllUptoCard

/-- THE SECOND FORM's CARD OF 'deaddroplaw14.KeysDerived'. -/
def keysDerivedUptoCard : Claim7 := { stood := { row := keysDerivedUptoRow, standIns := [], harness := (true, "268d8a48bc1ce60dc452025d3c79c002ea316379f442db596b617c2e9eb976f9"), looks := true }, kinds := [], alts := [], laidByText := true, laidKinds := [.data, .data, .data], laidTests := true, laidLooks := .later }
def KeysDerivedUptoCardSaid : Prop := Claim7.holds Tryd.pinned (.plain (OpenSpec.upto keysDerivedSpec)) keysDerivedUptoCard
end Rows
end Go.Proofs.YtihkemlgdfjmjaaDoor
