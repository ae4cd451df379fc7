/-
  DERIVED. GIVEN WITH THE SEED: THE CARDS: each row of YtkbikblijipceaaGreatDoorRows.lean that lists a variable, with what it lists TIED to the program's text (the seventh form; the later family's looks); each row that meets fmt, with fmt's text TOLD by the authors' own Lean function (tested against real Go, not proved from fmt's source: count such statements apart). THE CARD IS WHAT COUNTS. Prove the row's statement (the work); the ties are given (YtkbikblijipceaaGreatDoorTie.lean); close each card by the builder's one call (the guide's Derived/Test/ToyasCard.lean, 'card_holds'). Laid BY PROGRAM, IN A SANDBOX (cutbox-door.mjs). By AI agents, Wed Nov 11 2026. No macro, syntax, notation, axiom, sorry.
-/
import Derived.Test.YtkbikblijipceaaGreatDoorRows
import GoSem.ClaimSeven
namespace Go.Proofs.YtkbikblijipceaaGreatDoor
namespace Rows

/-- THE TIED CARD OF 'deaddroplaw22.RelayMail'. -/
def relayMailCard : Claim7 := { stood := { row := relayMailRow, standIns := [], harness := (true, "c2704e5db32de5b599fba6b20ad6c2dd9c17563759cdd5dbea55c51e1c7811f0"), looks := true }, kinds := [], alts := [], laidByText := true, laidKinds := [.handle], laidTests := true, laidLooks := .later }
def RelayMailCardSaid : Prop := Claim7.holds Tryz.pinned (.plain (OpenSpec.ofChange relayMailSpec)) relayMailCard

/-- THE TIED CARD OF 'deaddroplaw22.RelayForks'. -/
def relayForksCard : Claim7 := { stood := { row := relayForksRow, standIns := [], harness := (true, "c2704e5db32de5b599fba6b20ad6c2dd9c17563759cdd5dbea55c51e1c7811f0"), looks := true }, kinds := [], alts := [], laidByText := true, laidKinds := [.handle], laidTests := true, laidLooks := .later }
def RelayForksCardSaid : Prop := Claim7.holds Tryz.pinned (.plain (OpenSpec.ofChange relayForksSpec)) relayForksCard

/-- THE TIED CARD OF 'deaddroplaw22.RelayFull'. -/
def relayFullCard : Claim7 := { stood := { row := relayFullRow, standIns := [], harness := (true, "c2704e5db32de5b599fba6b20ad6c2dd9c17563759cdd5dbea55c51e1c7811f0"), looks := true }, kinds := [], alts := [], laidByText := true, laidKinds := [.handle], laidTests := true, laidLooks := .later }
def RelayFullCardSaid : Prop := Claim7.holds Tryz.pinned (.plain (OpenSpec.ofChange relayFullSpec)) relayFullCard

/-- THE TIED CARD OF 'deaddroplaw22.RelayShares'. -/
def relaySharesCard : Claim7 := { stood := { row := relaySharesRow, standIns := [], harness := (true, "c2704e5db32de5b599fba6b20ad6c2dd9c17563759cdd5dbea55c51e1c7811f0"), looks := true }, kinds := [], alts := [], laidByText := true, laidKinds := [.handle], laidTests := true, laidLooks := .later }
def RelaySharesCardSaid : Prop := Claim7.holds Tryz.pinned (.plain (OpenSpec.ofChange relaySharesSpec)) relaySharesCard

/-- THE TIED CARD OF 'deaddroplaw22.RelayLogs'. -/
def relayLogsCard : Claim7 := { stood := { row := relayLogsRow, standIns := [], harness := (true, "c2704e5db32de5b599fba6b20ad6c2dd9c17563759cdd5dbea55c51e1c7811f0"), looks := true }, kinds := [], alts := [], laidByText := true, laidKinds := [.handle], laidTests := true, laidLooks := .later }
def RelayLogsCardSaid : Prop := Claim7.holds Tryz.pinned (.plain (OpenSpec.ofChange relayLogsSpec)) relayLogsCard

/-- THE TIED CARD OF 'deaddroplaw22.RelayRevoked'. -/
def relayRevokedCard : Claim7 := { stood := { row := relayRevokedRow, standIns := [], harness := (true, "c2704e5db32de5b599fba6b20ad6c2dd9c17563759cdd5dbea55c51e1c7811f0"), looks := true }, kinds := [], alts := [], laidByText := true, laidKinds := [.handle], laidTests := true, laidLooks := .later }
def RelayRevokedCardSaid : Prop := Claim7.holds Tryz.pinned (.plain (OpenSpec.ofChange relayRevokedSpec)) relayRevokedCard

/-- THE TIED CARD OF 'deaddroplaw22.RelayMade'. -/
def relayMadeCard : Claim7 := { stood := { row := relayMadeRow, standIns := [], harness := (true, "c2704e5db32de5b599fba6b20ad6c2dd9c17563759cdd5dbea55c51e1c7811f0"), looks := true }, kinds := [], alts := [], laidByText := true, laidKinds := [.handle], laidTests := true, laidLooks := .later }
def RelayMadeCardSaid : Prop := Claim7.holds Tryz.pinned (.plain (OpenSpec.ofChange relayMadeSpec)) relayMadeCard

/-- THE TIED CARD OF 'deaddroplaw22.RelayAll'. -/
def relayAllCard : Claim7 := { stood := { row := relayAllRow, standIns := [], harness := (true, "c2704e5db32de5b599fba6b20ad6c2dd9c17563759cdd5dbea55c51e1c7811f0"), looks := true }, kinds := [], alts := [], laidByText := true, laidKinds := [.handle], laidTests := true, laidLooks := .later }
def RelayAllCardSaid : Prop := Claim7.holds Tryz.pinned (.plain (OpenSpec.ofChange relayAllSpec)) relayAllCard

/-- THE SECOND FORM's CARD OF 'deaddroplaw22.RelayMail'. -/
def relayMailUptoCard : Claim7 := { stood := { row := relayMailUptoRow, standIns := [], harness := (true, "c2704e5db32de5b599fba6b20ad6c2dd9c17563759cdd5dbea55c51e1c7811f0"), looks := true }, kinds := [], alts := [], laidByText := true, laidKinds := [.handle], laidTests := true, laidLooks := .later }
def RelayMailUptoCardSaid : Prop := Claim7.holds Tryz.pinned (.plain (OpenSpec.upto relayMailSpec)) relayMailUptoCard

/-- THE SECOND FORM's CARD OF 'deaddroplaw22.RelayForks'. -/
def relayForksUptoCard : Claim7 := { stood := { row := relayForksUptoRow, standIns := [], harness := (true, "c2704e5db32de5b599fba6b20ad6c2dd9c17563759cdd5dbea55c51e1c7811f0"), looks := true }, kinds := [], alts := [], laidByText := true, laidKinds := [.handle], laidTests := true, laidLooks := .later }
def RelayForksUptoCardSaid : Prop := Claim7.holds Tryz.pinned (.plain (OpenSpec.upto relayForksSpec)) relayForksUptoCard

/-- THE SECOND FORM's CARD OF 'deaddroplaw22.RelayFull'. -/
def relayFullUptoCard : Claim7 := { stood := { row := relayFullUptoRow, standIns := [], harness := (true, "c2704e5db32de5b599fba6b20ad6c2dd9c17563759cdd5dbea55c51e1c7811f0"), looks := true }, kinds := [], alts := [], laidByText := true, laidKinds := [.handle], laidTests := true, laidLooks := .later }
def RelayFullUptoCardSaid : Prop := Claim7.holds Tryz.pinned (.plain (OpenSpec.upto relayFullSpec)) relayFullUptoCard

/-- THE SECOND FORM's CARD OF 'deaddroplaw22.RelayShares'. -/
def relaySharesUptoCard : Claim7 := { stood := { row := relaySharesUptoRow, standIns := [], harness := (true, "c2704e5db32de5b599fba6b20ad6c2dd9c17563759cdd5dbea55c51e1c7811f0"), looks := true }, kinds := [], alts := [], laidByText := true, laidKinds := [.handle], laidTests := true, laidLooks := .later }
def RelaySharesUptoCardSaid : Prop := Claim7.holds Tryz.pinned (.plain (OpenSpec.upto relaySharesSpec)) relaySharesUptoCard

/-- THE SECOND FORM's CARD OF 'deaddroplaw22.RelayLogs'. -/
def relayLogsUptoCard : Claim7 := { stood := { row := relayLogsUptoRow, standIns := [], harness := (true, "c2704e5db32de5b599fba6b20ad6c2dd9c17563759cdd5dbea55c51e1c7811f0"), looks := true }, kinds := [], alts := [], laidByText := true, laidKinds := [.handle], laidTests := true, laidLooks := .later }
def RelayLogsUptoCardSaid : Prop := Claim7.holds Tryz.pinned (.plain (OpenSpec.upto relayLogsSpec)) relayLogsUptoCard

/-- THE SECOND FORM's CARD OF 'deaddroplaw22.RelayRevoked'. -/
def relayRevokedUptoCard : Claim7 := { stood := { row := relayRevokedUptoRow, standIns := [], harness := (true, "c2704e5db32de5b599fba6b20ad6c2dd9c17563759cdd5dbea55c51e1c7811f0"), looks := true }, kinds := [], alts := [], laidByText := true, laidKinds := [.handle], laidTests := true, laidLooks := .later }
def RelayRevokedUptoCardSaid : Prop := Claim7.holds Tryz.pinned (.plain (OpenSpec.upto relayRevokedSpec)) relayRevokedUptoCard

/-- THE SECOND FORM's CARD OF 'deaddroplaw22.RelayMade'. -/
def relayMadeUptoCard : Claim7 := { stood := { row := relayMadeUptoRow, standIns := [], harness := (true, "c2704e5db32de5b599fba6b20ad6c2dd9c17563759cdd5dbea55c51e1c7811f0"), looks := true }, kinds := [], alts := [], laidByText := true, laidKinds := [.handle], laidTests := true, laidLooks := .later }
def RelayMadeUptoCardSaid : Prop := Claim7.holds Tryz.pinned (.plain (OpenSpec.upto relayMadeSpec)) relayMadeUptoCard

/-- THE SECOND FORM's CARD OF 'deaddroplaw22.RelayAll'. -/
def relayAllUptoCard : Claim7 := { stood := { row := relayAllUptoRow, standIns := [], harness := (true, "c2704e5db32de5b599fba6b20ad6c2dd9c17563759cdd5dbea55c51e1c7811f0"), looks := true }, kinds := [], alts := [], laidByText := true, laidKinds := [.handle], laidTests := true, laidLooks := .later }
def RelayAllUptoCardSaid : Prop := Claim7.holds Tryz.pinned (.plain (OpenSpec.upto relayAllSpec)) relayAllUptoCard
end Rows
end Go.Proofs.YtkbikblijipceaaGreatDoor
