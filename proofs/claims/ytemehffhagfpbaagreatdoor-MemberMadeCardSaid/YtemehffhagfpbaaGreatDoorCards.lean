/-
  DERIVED. GIVEN WITH THE SEED: THE CARDS: each row of YtemehffhagfpbaaGreatDoorRows.lean that lists a variable, with what it lists TIED to the program's text (the seventh form; the later family's looks); each row that meets fmt, with fmt's text TOLD by the authors' own Lean function (tested against real Go, not proved from fmt's source: count such statements apart). THE CARD IS WHAT COUNTS. Prove the row's statement (the work); the ties are given (YtemehffhagfpbaaGreatDoorTie.lean); close each card by the builder's one call (the guide's Derived/Test/ToyasCard.lean, 'card_holds'). Laid BY PROGRAM, IN A SANDBOX (cutbox-door.mjs). By AI agents, Wed Nov 11 2026. No macro, syntax, notation, axiom, sorry.
-/
import Derived.Test.YtemehffhagfpbaaGreatDoorRows
import GoSem.ClaimSeven
namespace Go.Proofs.YtemehffhagfpbaaGreatDoor
namespace Rows

/-- THE TIED CARD OF 'deaddroplaw15.MemberChain'. -/
def memberChainCard : Claim7 := { stood := { row := memberChainRow, standIns := [], harness := (true, "51afea62b042f202d59793e7201041ac43641b68b6674c187cf4c3f21995e40d"), looks := true }, kinds := [], alts := [], laidByText := true, laidKinds := [.handle], laidTests := true, laidLooks := .later }
def MemberChainCardSaid : Prop := Claim7.holds Tryz.pinned (.plain (OpenSpec.ofChange memberChainSpec)) memberChainCard

/-- THE TIED CARD OF 'deaddroplaw15.MemberMade'. -/
def memberMadeCard : Claim7 := { stood := { row := memberMadeRow, standIns := [], harness := (true, "51afea62b042f202d59793e7201041ac43641b68b6674c187cf4c3f21995e40d"), looks := true }, kinds := [], alts := [], laidByText := true, laidKinds := [.handle], laidTests := true, laidLooks := .later }
def MemberMadeCardSaid : Prop := Claim7.holds Tryz.pinned (.plain (OpenSpec.ofChange memberMadeSpec)) memberMadeCard

/-- THE SECOND FORM's CARD OF 'deaddroplaw15.MemberChain'. -/
def memberChainUptoCard : Claim7 := { stood := { row := memberChainUptoRow, standIns := [], harness := (true, "51afea62b042f202d59793e7201041ac43641b68b6674c187cf4c3f21995e40d"), looks := true }, kinds := [], alts := [], laidByText := true, laidKinds := [.handle], laidTests := true, laidLooks := .later }
def MemberChainUptoCardSaid : Prop := Claim7.holds Tryz.pinned (.plain (OpenSpec.upto memberChainSpec)) memberChainUptoCard

/-- THE SECOND FORM's CARD OF 'deaddroplaw15.MemberMade'. -/
def memberMadeUptoCard : Claim7 := { stood := { row := memberMadeUptoRow, standIns := [], harness := (true, "51afea62b042f202d59793e7201041ac43641b68b6674c187cf4c3f21995e40d"), looks := true }, kinds := [], alts := [], laidByText := true, laidKinds := [.handle], laidTests := true, laidLooks := .later }
def MemberMadeUptoCardSaid : Prop := Claim7.holds Tryz.pinned (.plain (OpenSpec.upto memberMadeSpec)) memberMadeUptoCard
end Rows
end Go.Proofs.YtemehffhagfpbaaGreatDoor
