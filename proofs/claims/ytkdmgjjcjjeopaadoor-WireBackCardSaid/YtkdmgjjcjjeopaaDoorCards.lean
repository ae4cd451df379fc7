/-
  DERIVED. GIVEN WITH THE SEED: THE CARDS: each row of YtkdmgjjcjjeopaaDoorRows.lean that lists a variable, with what it lists TIED to the program's text (the seventh form; the later family's looks); each row that meets fmt, with fmt's text TOLD by the authors' own Lean function (tested against real Go, not proved from fmt's source: count such statements apart). THE CARD IS WHAT COUNTS. Prove the row's statement (the work); the ties are given (YtkdmgjjcjjeopaaDoorTie.lean); close each card by the builder's one call (the guide's Derived/Test/ToyasCard.lean, 'card_holds'). Laid BY PROGRAM, IN A SANDBOX (cutbox-door.mjs). By AI agents, Wed Nov 11 2026. No macro, syntax, notation, axiom, sorry.
-/
import Derived.Test.YtkdmgjjcjjeopaaDoorRows
import GoSem.ClaimSeven
namespace Go.Proofs.YtkdmgjjcjjeopaaDoor
namespace Rows

/-- THE TIED CARD OF 'deaddroplaw4.WireBytes'. -/
def wireBytesCard : Claim7 := { stood := { row := wireBytesRow, standIns := [], harness := (true, "f42ded97f8e5adbf53ca84260ae89e7ece561794f2e73126a25b00bee2dacee9"), looks := true }, kinds := [], alts := [], laidByText := true, laidKinds := [.handle], laidTests := true, laidLooks := .later }
def WireBytesCardSaid : Prop := Claim7.holds Tryd.pinned (.plain (OpenSpec.ofChange wireBytesSpec)) wireBytesCard

/-- THE TIED CARD OF 'deaddroplaw4.WireBack'. -/
def wireBackCard : Claim7 := { stood := { row := wireBackRow, standIns := [], harness := (true, "f42ded97f8e5adbf53ca84260ae89e7ece561794f2e73126a25b00bee2dacee9"), looks := true }, kinds := [], alts := [], laidByText := true, laidKinds := [.handle], laidTests := true, laidLooks := .later }
def WireBackCardSaid : Prop := Claim7.holds Tryd.pinned (.plain (OpenSpec.ofChange wireBackSpec)) wireBackCard

/-- THE TIED CARD OF 'deaddroplaw4.WireDeep'. -/
def wireDeepCard : Claim7 := { stood := { row := wireDeepRow, standIns := [], harness := (true, "f42ded97f8e5adbf53ca84260ae89e7ece561794f2e73126a25b00bee2dacee9"), looks := true }, kinds := [], alts := [], laidByText := true, laidKinds := [.handle], laidTests := true, laidLooks := .later }
def WireDeepCardSaid : Prop := Claim7.holds Tryd.pinned (.plain (OpenSpec.ofChange wireDeepSpec)) wireDeepCard

/-- THE TIED CARD OF 'deaddroplaw4.WireNumbers'. -/
def wireNumbersCard : Claim7 := { stood := { row := wireNumbersRow, standIns := [], harness := (true, "f42ded97f8e5adbf53ca84260ae89e7ece561794f2e73126a25b00bee2dacee9"), looks := true }, kinds := [], alts := [], laidByText := true, laidKinds := [.handle], laidTests := true, laidLooks := .later }
def WireNumbersCardSaid : Prop := Claim7.holds Tryd.pinned (.plain (OpenSpec.ofChange wireNumbersSpec)) wireNumbersCard

/-- THE TIED CARD OF 'deaddroplaw4.WireLists'. -/
def wireListsCard : Claim7 := { stood := { row := wireListsRow, standIns := [], harness := (true, "f42ded97f8e5adbf53ca84260ae89e7ece561794f2e73126a25b00bee2dacee9"), looks := true }, kinds := [], alts := [], laidByText := true, laidKinds := [.handle], laidTests := true, laidLooks := .later }
def WireListsCardSaid : Prop := Claim7.holds Tryd.pinned (.plain (OpenSpec.ofChange wireListsSpec)) wireListsCard

/-- THE TIED CARD OF 'deaddroplaw4.WireKinds'. -/
def wireKindsCard : Claim7 := { stood := { row := wireKindsRow, standIns := [], harness := (true, "f42ded97f8e5adbf53ca84260ae89e7ece561794f2e73126a25b00bee2dacee9"), looks := true }, kinds := [], alts := [], laidByText := true, laidKinds := [.handle], laidTests := true, laidLooks := .later }
def WireKindsCardSaid : Prop := Claim7.holds Tryd.pinned (.plain (OpenSpec.ofChange wireKindsSpec)) wireKindsCard

/-- THE TIED CARD OF 'deaddroplaw4.WireAll'. -/
def wireAllCard : Claim7 := { stood := { row := wireAllRow, standIns := [], harness := (true, "f42ded97f8e5adbf53ca84260ae89e7ece561794f2e73126a25b00bee2dacee9"), looks := true }, kinds := [], alts := [], laidByText := true, laidKinds := [.handle], laidTests := true, laidLooks := .later }
def WireAllCardSaid : Prop := Claim7.holds Tryd.pinned (.plain (OpenSpec.ofChange wireAllSpec)) wireAllCard

/-- THE SECOND FORM's CARD OF 'deaddroplaw4.WireBytes'. -/
def wireBytesUptoCard : Claim7 := { stood := { row := wireBytesUptoRow, standIns := [], harness := (true, "f42ded97f8e5adbf53ca84260ae89e7ece561794f2e73126a25b00bee2dacee9"), looks := true }, kinds := [], alts := [], laidByText := true, laidKinds := [.handle], laidTests := true, laidLooks := .later }
def WireBytesUptoCardSaid : Prop := Claim7.holds Tryd.pinned (.plain (OpenSpec.upto wireBytesSpec)) wireBytesUptoCard

/-- THE SECOND FORM's CARD OF 'deaddroplaw4.WireBack'. -/
def wireBackUptoCard : Claim7 := { stood := { row := wireBackUptoRow, standIns := [], harness := (true, "f42ded97f8e5adbf53ca84260ae89e7ece561794f2e73126a25b00bee2dacee9"), looks := true }, kinds := [], alts := [], laidByText := true, laidKinds := [.handle], laidTests := true, laidLooks := .later }
def WireBackUptoCardSaid : Prop := Claim7.holds Tryd.pinned (.plain (OpenSpec.upto wireBackSpec)) wireBackUptoCard

/-- THE SECOND FORM's CARD OF 'deaddroplaw4.WireDeep'. -/
def wireDeepUptoCard : Claim7 := { stood := { row := wireDeepUptoRow, standIns := [], harness := (true, "f42ded97f8e5adbf53ca84260ae89e7ece561794f2e73126a25b00bee2dacee9"), looks := true }, kinds := [], alts := [], laidByText := true, laidKinds := [.handle], laidTests := true, laidLooks := .later }
def WireDeepUptoCardSaid : Prop := Claim7.holds Tryd.pinned (.plain (OpenSpec.upto wireDeepSpec)) wireDeepUptoCard

/-- THE SECOND FORM's CARD OF 'deaddroplaw4.WireNumbers'. -/
def wireNumbersUptoCard : Claim7 := { stood := { row := wireNumbersUptoRow, standIns := [], harness := (true, "f42ded97f8e5adbf53ca84260ae89e7ece561794f2e73126a25b00bee2dacee9"), looks := true }, kinds := [], alts := [], laidByText := true, laidKinds := [.handle], laidTests := true, laidLooks := .later }
def WireNumbersUptoCardSaid : Prop := Claim7.holds Tryd.pinned (.plain (OpenSpec.upto wireNumbersSpec)) wireNumbersUptoCard

/-- THE SECOND FORM's CARD OF 'deaddroplaw4.WireLists'. -/
def wireListsUptoCard : Claim7 := { stood := { row := wireListsUptoRow, standIns := [], harness := (true, "f42ded97f8e5adbf53ca84260ae89e7ece561794f2e73126a25b00bee2dacee9"), looks := true }, kinds := [], alts := [], laidByText := true, laidKinds := [.handle], laidTests := true, laidLooks := .later }
def WireListsUptoCardSaid : Prop := Claim7.holds Tryd.pinned (.plain (OpenSpec.upto wireListsSpec)) wireListsUptoCard

/-- THE SECOND FORM's CARD OF 'deaddroplaw4.WireKinds'. -/
def wireKindsUptoCard : Claim7 := { stood := { row := wireKindsUptoRow, standIns := [], harness := (true, "f42ded97f8e5adbf53ca84260ae89e7ece561794f2e73126a25b00bee2dacee9"), looks := true }, kinds := [], alts := [], laidByText := true, laidKinds := [.handle], laidTests := true, laidLooks := .later }
def WireKindsUptoCardSaid : Prop := Claim7.holds Tryd.pinned (.plain (OpenSpec.upto wireKindsSpec)) wireKindsUptoCard

/-- THE SECOND FORM's CARD OF 'deaddroplaw4.WireAll'. -/
def wireAllUptoCard : Claim7 := { stood := { row := wireAllUptoRow, standIns := [], harness := (true, "f42ded97f8e5adbf53ca84260ae89e7ece561794f2e73126a25b00bee2dacee9"), looks := true }, kinds := [], alts := [], laidByText := true, laidKinds := [.handle], laidTests := true, laidLooks := .later }
def WireAllUptoCardSaid : Prop := Claim7.holds Tryd.pinned (.plain (OpenSpec.upto wireAllSpec)) wireAllUptoCard
end Rows
end Go.Proofs.YtkdmgjjcjjeopaaDoor
