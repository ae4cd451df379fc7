/-
  DERIVED. GIVEN WITH THE SEED: THE CARDS: each row of YtlacdlafoclaeaaDoorRows.lean that lists a variable, with what it lists TIED to the program's text (the seventh form; the later family's looks); each row that meets fmt, with fmt's text TOLD by the authors' own Lean function (tested against real Go, not proved from fmt's source: count such statements apart). THE CARD IS WHAT COUNTS. Prove the row's statement (the work); the ties are given (YtlacdlafoclaeaaDoorTie.lean); close each card by the builder's one call (the guide's Derived/Test/ToyasCard.lean, 'card_holds'). Laid BY PROGRAM, IN A SANDBOX (cutbox-door.mjs). By AI agents, Wed Nov 11 2026. No macro, syntax, notation, axiom, sorry.
-/
import Derived.Test.YtlacdlafoclaeaaDoorRows
import GoSem.ClaimSeven
namespace Go.Proofs.YtlacdlafoclaeaaDoor
namespace Rows

/-- THE TIED CARD OF 'deaddroplaw21.RequestAll'. -/
def requestAllCard : Claim7 := { stood := { row := requestAllRow, standIns := [], harness := (true, "453f890405d82b1098896b2eed5b6ff5d33294999041b32e2e04828e041101a1"), looks := true }, kinds := [], alts := [], laidByText := true, laidKinds := [.handle], laidTests := true, laidLooks := .later }
def RequestAllCardSaid : Prop := Claim7.holds Tryd.pinned (.plain (OpenSpec.ofChange requestAllSpec)) requestAllCard

/-- THE TIED CARD OF 'deaddroplaw21.RequestBack'. -/
def requestBackCard : Claim7 := { stood := { row := requestBackRow, standIns := [], harness := (true, "453f890405d82b1098896b2eed5b6ff5d33294999041b32e2e04828e041101a1"), looks := true }, kinds := [], alts := [], laidByText := true, laidKinds := [.handle], laidTests := true, laidLooks := .later }
def RequestBackCardSaid : Prop := Claim7.holds Tryd.pinned (.plain (OpenSpec.ofChange requestBackSpec)) requestBackCard

/-- THE TIED CARD OF 'deaddroplaw21.RequestSizes'. -/
def requestSizesCard : Claim7 := { stood := { row := requestSizesRow, standIns := [], harness := (true, "453f890405d82b1098896b2eed5b6ff5d33294999041b32e2e04828e041101a1"), looks := true }, kinds := [], alts := [], laidByText := true, laidKinds := [.handle], laidTests := true, laidLooks := .later }
def RequestSizesCardSaid : Prop := Claim7.holds Tryd.pinned (.plain (OpenSpec.ofChange requestSizesSpec)) requestSizesCard

/-- THE TIED CARD OF 'deaddroplaw21.RequestApart'. -/
def requestApartCard : Claim7 := { stood := { row := requestApartRow, standIns := [], harness := (true, "453f890405d82b1098896b2eed5b6ff5d33294999041b32e2e04828e041101a1"), looks := true }, kinds := [], alts := [], laidByText := true, laidKinds := [.handle], laidTests := true, laidLooks := .later }
def RequestApartCardSaid : Prop := Claim7.holds Tryd.pinned (.plain (OpenSpec.ofChange requestApartSpec)) requestApartCard

/-- THE SECOND FORM's CARD OF 'deaddroplaw21.RequestAll'. -/
def requestAllUptoCard : Claim7 := { stood := { row := requestAllUptoRow, standIns := [], harness := (true, "453f890405d82b1098896b2eed5b6ff5d33294999041b32e2e04828e041101a1"), looks := true }, kinds := [], alts := [], laidByText := true, laidKinds := [.handle], laidTests := true, laidLooks := .later }
def RequestAllUptoCardSaid : Prop := Claim7.holds Tryd.pinned (.plain (OpenSpec.upto requestAllSpec)) requestAllUptoCard

/-- THE SECOND FORM's CARD OF 'deaddroplaw21.RequestBack'. -/
def requestBackUptoCard : Claim7 := { stood := { row := requestBackUptoRow, standIns := [], harness := (true, "453f890405d82b1098896b2eed5b6ff5d33294999041b32e2e04828e041101a1"), looks := true }, kinds := [], alts := [], laidByText := true, laidKinds := [.handle], laidTests := true, laidLooks := .later }
def RequestBackUptoCardSaid : Prop := Claim7.holds Tryd.pinned (.plain (OpenSpec.upto requestBackSpec)) requestBackUptoCard

/-- THE SECOND FORM's CARD OF 'deaddroplaw21.RequestSizes'. -/
def requestSizesUptoCard : Claim7 := { stood := { row := requestSizesUptoRow, standIns := [], harness := (true, "453f890405d82b1098896b2eed5b6ff5d33294999041b32e2e04828e041101a1"), looks := true }, kinds := [], alts := [], laidByText := true, laidKinds := [.handle], laidTests := true, laidLooks := .later }
def RequestSizesUptoCardSaid : Prop := Claim7.holds Tryd.pinned (.plain (OpenSpec.upto requestSizesSpec)) requestSizesUptoCard

/-- THE SECOND FORM's CARD OF 'deaddroplaw21.RequestApart'. -/
def requestApartUptoCard : Claim7 := { stood := { row := requestApartUptoRow, standIns := [], harness := (true, "453f890405d82b1098896b2eed5b6ff5d33294999041b32e2e04828e041101a1"), looks := true }, kinds := [], alts := [], laidByText := true, laidKinds := [.handle], laidTests := true, laidLooks := .later }
def RequestApartUptoCardSaid : Prop := Claim7.holds Tryd.pinned (.plain (OpenSpec.upto requestApartSpec)) requestApartUptoCard
end Rows
end Go.Proofs.YtlacdlafoclaeaaDoor
