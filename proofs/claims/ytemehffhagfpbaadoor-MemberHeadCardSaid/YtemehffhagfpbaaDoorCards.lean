/-
  DERIVED. GIVEN WITH THE SEED: THE CARDS: each row of YtemehffhagfpbaaDoorRows.lean that lists a variable, with what it lists TIED to the program's text (the seventh form; the later family's looks); each row that meets fmt, with fmt's text TOLD by the authors' own Lean function (tested against real Go, not proved from fmt's source: count such statements apart). THE CARD IS WHAT COUNTS. Prove the row's statement (the work); the ties are given (YtemehffhagfpbaaDoorTie.lean); close each card by the builder's one call (the guide's Derived/Test/ToyasCard.lean, 'card_holds'). Laid BY PROGRAM, IN A SANDBOX (cutbox-door.mjs). By AI agents, Wed Nov 11 2026. No macro, syntax, notation, axiom, sorry.
-/
import Derived.Test.YtemehffhagfpbaaDoorRows
import GoSem.ClaimSeven
namespace Go.Proofs.YtemehffhagfpbaaDoor
namespace Rows

/-- THE TIED CARD OF 'deaddroplaw15.MemberMany'. -/
def memberManyCard : Claim7 := { stood := { row := memberManyRow, standIns := [], harness := (true, "21bc2f5a9315dcecdb1268d78cc9cc46956d969a3a9ca77da8aabecb4e939bc5"), looks := true }, kinds := [], alts := [], laidByText := true, laidKinds := [.handle], laidTests := true, laidLooks := .later }
def MemberManyCardSaid : Prop := Claim7.holds Tryd.pinned (.plain (OpenSpec.ofChange memberManySpec)) memberManyCard

/-- THE TIED CARD OF 'deaddroplaw15.MemberBack'. -/
def memberBackCard : Claim7 := { stood := { row := memberBackRow, standIns := [], harness := (true, "21bc2f5a9315dcecdb1268d78cc9cc46956d969a3a9ca77da8aabecb4e939bc5"), looks := true }, kinds := [], alts := [], laidByText := true, laidKinds := [.handle], laidTests := true, laidLooks := .later }
def MemberBackCardSaid : Prop := Claim7.holds Tryd.pinned (.plain (OpenSpec.ofChange memberBackSpec)) memberBackCard

/-- THE TIED CARD OF 'deaddroplaw15.MemberHead'. -/
def memberHeadCard : Claim7 := { stood := { row := memberHeadRow, standIns := [], harness := (true, "21bc2f5a9315dcecdb1268d78cc9cc46956d969a3a9ca77da8aabecb4e939bc5"), looks := true }, kinds := [], alts := [], laidByText := true, laidKinds := [.handle], laidTests := true, laidLooks := .later }
def MemberHeadCardSaid : Prop := Claim7.holds Tryd.pinned (.plain (OpenSpec.ofChange memberHeadSpec)) memberHeadCard

/-- THE SECOND FORM's CARD OF 'deaddroplaw15.MemberMany'. -/
def memberManyUptoCard : Claim7 := { stood := { row := memberManyUptoRow, standIns := [], harness := (true, "21bc2f5a9315dcecdb1268d78cc9cc46956d969a3a9ca77da8aabecb4e939bc5"), looks := true }, kinds := [], alts := [], laidByText := true, laidKinds := [.handle], laidTests := true, laidLooks := .later }
def MemberManyUptoCardSaid : Prop := Claim7.holds Tryd.pinned (.plain (OpenSpec.upto memberManySpec)) memberManyUptoCard

/-- THE SECOND FORM's CARD OF 'deaddroplaw15.MemberBack'. -/
def memberBackUptoCard : Claim7 := { stood := { row := memberBackUptoRow, standIns := [], harness := (true, "21bc2f5a9315dcecdb1268d78cc9cc46956d969a3a9ca77da8aabecb4e939bc5"), looks := true }, kinds := [], alts := [], laidByText := true, laidKinds := [.handle], laidTests := true, laidLooks := .later }
def MemberBackUptoCardSaid : Prop := Claim7.holds Tryd.pinned (.plain (OpenSpec.upto memberBackSpec)) memberBackUptoCard

/-- THE SECOND FORM's CARD OF 'deaddroplaw15.MemberHead'. -/
def memberHeadUptoCard : Claim7 := { stood := { row := memberHeadUptoRow, standIns := [], harness := (true, "21bc2f5a9315dcecdb1268d78cc9cc46956d969a3a9ca77da8aabecb4e939bc5"), looks := true }, kinds := [], alts := [], laidByText := true, laidKinds := [.handle], laidTests := true, laidLooks := .later }
def MemberHeadUptoCardSaid : Prop := Claim7.holds Tryd.pinned (.plain (OpenSpec.upto memberHeadSpec)) memberHeadUptoCard
end Rows
end Go.Proofs.YtemehffhagfpbaaDoor
