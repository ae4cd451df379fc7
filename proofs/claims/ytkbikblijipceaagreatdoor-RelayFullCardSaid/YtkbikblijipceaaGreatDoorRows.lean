/-
  NARROWER THAN 'FOR EVERY INPUT', by the rows' own cells (each row's printed sentence says how): RelayMail: laid · RelayForks: laid · RelayFull: laid · RelayShares: laid · RelayLogs: laid · RelayRevoked: laid · RelayMade: laid · RelayAll: laid.
  DERIVED. THE GIVEN ROWS OF THIS SEAT. 8 by the template 'for every input the law returns true; each argument reads behind the call as it read before'; 0 by the template 'total and deterministic' (their statements: YtkbikblijipceaaGreatDoorTotals.lean).
  GIVEN WITH THE SEED: the statements are not yours to turn. If you find one false, say at which input.
  Laid BY PROGRAM, IN A SANDBOX (cutbox-rows.mjs): the forced cells as the released guide's own fill.sh prints them over the translation ee6f522296e3128e… (all of the seat's roots in one cut). By AI agents, Wed Nov 11 2026. No macro, syntax, notation, axiom, sorry.
-/
import Derived.Test.YtkbikblijipceaaGreatDoorChecked
import GoSem.Claim
import GoSem.ClaimJoined
import GoSem.ClaimMapViews
import Derived.JoinedTies
import Derived.KernelRfl
namespace Go.Proofs.YtkbikblijipceaaGreatDoor
/- THE CELL 'sum', in the pinned program and in every row, IS THE sha256 OF THE DUMP (.gsa) THAT YtkbikblijipceaaGreatDoorProg.lean LOADS. Nothing in Lean hashes anything: it is a label: what it is worth is what the hold of that sum in a sandbox is worth. -/
noncomputable def Tryz.pinned : Pinned := { name := "ytkbikblijipceaagreatdoor", sum := "ee6f522296e3128e7e9885292bf5bd9fb4efbca2fc1274326bcfd163906a6fe6", checked := Tryz.checked }
namespace Rows
def none {H : Type} : Left H := { results := [], args := [] }

/- WHAT THE LISTED PACKAGE-LEVEL VARIABLES READ AS WHEN THE CALL BEGINS. Each datum BY PROGRAM (the guide's laid-datum.mjs) off the statement by which the dump's own 'gosem.cut.vars' lays the variable. In a bare row this is a premise. The card (YtkbikblijipceaaGreatDoorCards.lean) ties it to the program's text. -/
def laid_errors_errorType {H : Type} : DataW H := .iface "internal/reflectlite.rtype" (.agg [.ptr (.lit (.string [101, 114, 114, 111, 114]))])

/-- 'deaddroplaw22.RelayMail': WHATEVER THE INPUT: true; the input reads as it did. -/
def relayMailSpec : ChangeSpec := { name := "relayMail", fn := fun _ => fun
  | [d1, d2, d3] => { results := [.lit (.bool true)], args := [d1, d2, d3] }
  | _ => none }
def relayMailRow : OpenClaim := { program := "ytkbikblijipceaagreatdoor", sum := "ee6f522296e3128e7e9885292bf5bd9fb4efbca2fc1274326bcfd163906a6fe6", func := "deaddrop/deaddroplaw22.RelayMail", spec := "relayMail", inPlace := ["internal/reflectlite.ValueOf", "(internal/reflectlite.Value).Type", "(internal/reflectlite.Value).IsNil", "internal/reflectlite.TypeOf", "(internal/reflectlite.Value).Elem", "(internal/reflectlite.Value).Set", "internal/abi.NoEscape", "internal/bytealg.MakeNoZero"], unfollowed := true, recurses := true, named := ["errors.errorType"], apart := false, laid := [("errors.errorType", laid_errors_errorType)] }
def RelayMailSaid : Prop := relayMailRow.holds Tryz.pinned (OpenSpec.ofChange relayMailSpec)

/-- ITS FALSE NEIGHBOUR: 'it returns false'. Refute it at one input. -/
def relayMailWrong : ChangeSpec := { name := "relayMail", fn := fun _ => fun
  | [d1, d2, d3] => { results := [.lit (.bool false)], args := [d1, d2, d3] }
  | _ => none }
def RelayMailWrongFalsely : Prop := relayMailRow.holds Tryz.pinned (OpenSpec.ofChange relayMailWrong)

/-- 'deaddroplaw22.RelayForks': WHATEVER THE INPUT: true; the input reads as it did. -/
def relayForksSpec : ChangeSpec := { name := "relayForks", fn := fun _ => fun
  | [d1, d2, d3] => { results := [.lit (.bool true)], args := [d1, d2, d3] }
  | _ => none }
def relayForksRow : OpenClaim := { program := "ytkbikblijipceaagreatdoor", sum := "ee6f522296e3128e7e9885292bf5bd9fb4efbca2fc1274326bcfd163906a6fe6", func := "deaddrop/deaddroplaw22.RelayForks", spec := "relayForks", inPlace := ["internal/reflectlite.ValueOf", "(internal/reflectlite.Value).Type", "(internal/reflectlite.Value).IsNil", "internal/reflectlite.TypeOf", "(internal/reflectlite.Value).Elem", "(internal/reflectlite.Value).Set", "internal/abi.NoEscape", "internal/bytealg.MakeNoZero"], unfollowed := true, recurses := true, named := ["errors.errorType"], apart := false, laid := [("errors.errorType", laid_errors_errorType)] }
def RelayForksSaid : Prop := relayForksRow.holds Tryz.pinned (OpenSpec.ofChange relayForksSpec)

/-- ITS FALSE NEIGHBOUR: 'it returns false'. Refute it at one input. -/
def relayForksWrong : ChangeSpec := { name := "relayForks", fn := fun _ => fun
  | [d1, d2, d3] => { results := [.lit (.bool false)], args := [d1, d2, d3] }
  | _ => none }
def RelayForksWrongFalsely : Prop := relayForksRow.holds Tryz.pinned (OpenSpec.ofChange relayForksWrong)

/-- 'deaddroplaw22.RelayFull': WHATEVER THE INPUT: true; the input reads as it did. -/
def relayFullSpec : ChangeSpec := { name := "relayFull", fn := fun _ => fun
  | [d] => { results := [.lit (.bool true)], args := [d] }
  | _ => none }
def relayFullRow : OpenClaim := { program := "ytkbikblijipceaagreatdoor", sum := "ee6f522296e3128e7e9885292bf5bd9fb4efbca2fc1274326bcfd163906a6fe6", func := "deaddrop/deaddroplaw22.RelayFull", spec := "relayFull", inPlace := ["internal/reflectlite.ValueOf", "(internal/reflectlite.Value).Type", "(internal/reflectlite.Value).IsNil", "internal/reflectlite.TypeOf", "(internal/reflectlite.Value).Elem", "(internal/reflectlite.Value).Set", "internal/abi.NoEscape", "internal/bytealg.MakeNoZero"], unfollowed := true, recurses := true, named := ["errors.errorType"], apart := false, laid := [("errors.errorType", laid_errors_errorType)] }
def RelayFullSaid : Prop := relayFullRow.holds Tryz.pinned (OpenSpec.ofChange relayFullSpec)

/-- ITS FALSE NEIGHBOUR: 'it returns false'. Refute it at one input. -/
def relayFullWrong : ChangeSpec := { name := "relayFull", fn := fun _ => fun
  | [d] => { results := [.lit (.bool false)], args := [d] }
  | _ => none }
def RelayFullWrongFalsely : Prop := relayFullRow.holds Tryz.pinned (OpenSpec.ofChange relayFullWrong)

/-- 'deaddroplaw22.RelayShares': WHATEVER THE INPUT: true; the input reads as it did. -/
def relaySharesSpec : ChangeSpec := { name := "relayShares", fn := fun _ => fun
  | [d1, d2] => { results := [.lit (.bool true)], args := [d1, d2] }
  | _ => none }
def relaySharesRow : OpenClaim := { program := "ytkbikblijipceaagreatdoor", sum := "ee6f522296e3128e7e9885292bf5bd9fb4efbca2fc1274326bcfd163906a6fe6", func := "deaddrop/deaddroplaw22.RelayShares", spec := "relayShares", inPlace := ["internal/reflectlite.ValueOf", "(internal/reflectlite.Value).Type", "(internal/reflectlite.Value).IsNil", "internal/reflectlite.TypeOf", "(internal/reflectlite.Value).Elem", "(internal/reflectlite.Value).Set", "internal/abi.NoEscape", "internal/bytealg.MakeNoZero"], unfollowed := true, recurses := true, named := ["errors.errorType"], apart := false, laid := [("errors.errorType", laid_errors_errorType)] }
def RelaySharesSaid : Prop := relaySharesRow.holds Tryz.pinned (OpenSpec.ofChange relaySharesSpec)

/-- ITS FALSE NEIGHBOUR: 'it returns false'. Refute it at one input. -/
def relaySharesWrong : ChangeSpec := { name := "relayShares", fn := fun _ => fun
  | [d1, d2] => { results := [.lit (.bool false)], args := [d1, d2] }
  | _ => none }
def RelaySharesWrongFalsely : Prop := relaySharesRow.holds Tryz.pinned (OpenSpec.ofChange relaySharesWrong)

/-- 'deaddroplaw22.RelayLogs': WHATEVER THE INPUT: true; the input reads as it did. -/
def relayLogsSpec : ChangeSpec := { name := "relayLogs", fn := fun _ => fun
  | [d1, d2] => { results := [.lit (.bool true)], args := [d1, d2] }
  | _ => none }
def relayLogsRow : OpenClaim := { program := "ytkbikblijipceaagreatdoor", sum := "ee6f522296e3128e7e9885292bf5bd9fb4efbca2fc1274326bcfd163906a6fe6", func := "deaddrop/deaddroplaw22.RelayLogs", spec := "relayLogs", inPlace := ["internal/reflectlite.ValueOf", "(internal/reflectlite.Value).Type", "(internal/reflectlite.Value).IsNil", "internal/reflectlite.TypeOf", "(internal/reflectlite.Value).Elem", "(internal/reflectlite.Value).Set", "internal/abi.NoEscape", "internal/bytealg.MakeNoZero"], unfollowed := true, recurses := true, named := ["errors.errorType"], apart := false, laid := [("errors.errorType", laid_errors_errorType)] }
def RelayLogsSaid : Prop := relayLogsRow.holds Tryz.pinned (OpenSpec.ofChange relayLogsSpec)

/-- ITS FALSE NEIGHBOUR: 'it returns false'. Refute it at one input. -/
def relayLogsWrong : ChangeSpec := { name := "relayLogs", fn := fun _ => fun
  | [d1, d2] => { results := [.lit (.bool false)], args := [d1, d2] }
  | _ => none }
def RelayLogsWrongFalsely : Prop := relayLogsRow.holds Tryz.pinned (OpenSpec.ofChange relayLogsWrong)

/-- 'deaddroplaw22.RelayRevoked': WHATEVER THE INPUT: true; the input reads as it did. -/
def relayRevokedSpec : ChangeSpec := { name := "relayRevoked", fn := fun _ => fun
  | [d1, d2, d3] => { results := [.lit (.bool true)], args := [d1, d2, d3] }
  | _ => none }
def relayRevokedRow : OpenClaim := { program := "ytkbikblijipceaagreatdoor", sum := "ee6f522296e3128e7e9885292bf5bd9fb4efbca2fc1274326bcfd163906a6fe6", func := "deaddrop/deaddroplaw22.RelayRevoked", spec := "relayRevoked", inPlace := ["internal/reflectlite.ValueOf", "(internal/reflectlite.Value).Type", "(internal/reflectlite.Value).IsNil", "internal/reflectlite.TypeOf", "(internal/reflectlite.Value).Elem", "(internal/reflectlite.Value).Set", "internal/abi.NoEscape", "internal/bytealg.MakeNoZero"], unfollowed := true, recurses := true, named := ["errors.errorType"], apart := false, laid := [("errors.errorType", laid_errors_errorType)] }
def RelayRevokedSaid : Prop := relayRevokedRow.holds Tryz.pinned (OpenSpec.ofChange relayRevokedSpec)

/-- ITS FALSE NEIGHBOUR: 'it returns false'. Refute it at one input. -/
def relayRevokedWrong : ChangeSpec := { name := "relayRevoked", fn := fun _ => fun
  | [d1, d2, d3] => { results := [.lit (.bool false)], args := [d1, d2, d3] }
  | _ => none }
def RelayRevokedWrongFalsely : Prop := relayRevokedRow.holds Tryz.pinned (OpenSpec.ofChange relayRevokedWrong)

/-- 'deaddroplaw22.RelayMade': WHATEVER THE INPUT: true; the input reads as it did. -/
def relayMadeSpec : ChangeSpec := { name := "relayMade", fn := fun _ => fun
  | [d1, d2, d3] => { results := [.lit (.bool true)], args := [d1, d2, d3] }
  | _ => none }
def relayMadeRow : OpenClaim := { program := "ytkbikblijipceaagreatdoor", sum := "ee6f522296e3128e7e9885292bf5bd9fb4efbca2fc1274326bcfd163906a6fe6", func := "deaddrop/deaddroplaw22.RelayMade", spec := "relayMade", inPlace := ["internal/reflectlite.ValueOf", "(internal/reflectlite.Value).Type", "(internal/reflectlite.Value).IsNil", "internal/reflectlite.TypeOf", "(internal/reflectlite.Value).Elem", "(internal/reflectlite.Value).Set", "internal/abi.NoEscape", "internal/bytealg.MakeNoZero"], unfollowed := true, recurses := true, named := ["errors.errorType"], apart := false, laid := [("errors.errorType", laid_errors_errorType)] }
def RelayMadeSaid : Prop := relayMadeRow.holds Tryz.pinned (OpenSpec.ofChange relayMadeSpec)

/-- ITS FALSE NEIGHBOUR: 'it returns false'. Refute it at one input. -/
def relayMadeWrong : ChangeSpec := { name := "relayMade", fn := fun _ => fun
  | [d1, d2, d3] => { results := [.lit (.bool false)], args := [d1, d2, d3] }
  | _ => none }
def RelayMadeWrongFalsely : Prop := relayMadeRow.holds Tryz.pinned (OpenSpec.ofChange relayMadeWrong)

/-- 'deaddroplaw22.RelayAll': WHATEVER THE INPUT: true; the input reads as it did. -/
def relayAllSpec : ChangeSpec := { name := "relayAll", fn := fun _ => fun
  | [d1, d2, d3, d4, d5] => { results := [.lit (.bool true)], args := [d1, d2, d3, d4, d5] }
  | _ => none }
def relayAllRow : OpenClaim := { program := "ytkbikblijipceaagreatdoor", sum := "ee6f522296e3128e7e9885292bf5bd9fb4efbca2fc1274326bcfd163906a6fe6", func := "deaddrop/deaddroplaw22.RelayAll", spec := "relayAll", inPlace := ["internal/reflectlite.ValueOf", "(internal/reflectlite.Value).Type", "(internal/reflectlite.Value).IsNil", "internal/reflectlite.TypeOf", "(internal/reflectlite.Value).Elem", "(internal/reflectlite.Value).Set", "internal/abi.NoEscape", "internal/bytealg.MakeNoZero"], unfollowed := true, recurses := true, named := ["errors.errorType"], apart := false, laid := [("errors.errorType", laid_errors_errorType)] }
def RelayAllSaid : Prop := relayAllRow.holds Tryz.pinned (OpenSpec.ofChange relayAllSpec)

/-- ITS FALSE NEIGHBOUR: 'it returns false'. Refute it at one input. -/
def relayAllWrong : ChangeSpec := { name := "relayAll", fn := fun _ => fun
  | [d1, d2, d3, d4, d5] => { results := [.lit (.bool false)], args := [d1, d2, d3, d4, d5] }
  | _ => none }
def RelayAllWrongFalsely : Prop := relayAllRow.holds Tryz.pinned (OpenSpec.ofChange relayAllWrong)

/- THE SECOND FORM. 'bulk': how many values and letters a reading holds, each counted each time it is reached (what is shared counts as often as it is met; a slice's spare places count too). A statement '..UptoSaid' is the law's where the arguments, and the package variables that the reading takes, are together of bulk at most 1048576: NARROWER than '..Said'. Prove '..Said' where nothing that the law and all that it calls make is longer than what came in: it says more and counts as full. Else prove '..UptoSaid'. A law counts once. -/
mutual
def uptoBulk {H : Type} : DataW H → Nat
  | .lit (.string bytes) => bytes.length + 1
  | .lit _ => 1
  | .nil => 1
  | .ptr d => uptoBulk d + 1
  | .slice elems spare => uptoBulkAll elems + uptoBulkAll spare + 1
  | .agg parts => uptoBulkAll parts + 1
  | .iface _ d => uptoBulk d + 1
  | .map entries => uptoBulkEntries entries + 1
  | .held _ => 1
def uptoBulkAll {H : Type} : List (DataW H) → Nat
  | [] => 0
  | d :: r => uptoBulk d + uptoBulkAll r
def uptoBulkEntries {H : Type} : List (Lit × DataW H) → Nat
  | [] => 0
  | x :: r => uptoBulkEntry x + uptoBulkEntries r
def uptoBulkEntry {H : Type} : Lit × DataW H → Nat
  | (.string bytes, d) => bytes.length + uptoBulk d + 1
  | (_, d) => uptoBulk d + 1
 end
def uptoSmall : (H : Type) → List (DataW H) → Bool := fun _ ds => decide (uptoBulkAll ds ≤ 1048576)
def OpenSpec.upto (s : _root_.Go.ChangeSpec) : _root_.Go.OpenSpec := { _root_.Go.OpenSpec.ofChange s with cond := some uptoSmall }

/-- 'deaddroplaw22.RelayMail', WHERE WHAT IT READS IS OF BULK AT MOST 1048576: true; the input reads as it did. -/
def relayMailUptoRow : OpenClaim := { program := "ytkbikblijipceaagreatdoor", sum := "ee6f522296e3128e7e9885292bf5bd9fb4efbca2fc1274326bcfd163906a6fe6", func := "deaddrop/deaddroplaw22.RelayMail", spec := "relayMail", inPlace := ["internal/reflectlite.ValueOf", "(internal/reflectlite.Value).Type", "(internal/reflectlite.Value).IsNil", "internal/reflectlite.TypeOf", "(internal/reflectlite.Value).Elem", "(internal/reflectlite.Value).Set", "internal/abi.NoEscape", "internal/bytealg.MakeNoZero"], unfollowed := true, recurses := true, named := ["errors.errorType"], apart := false, laid := [("errors.errorType", laid_errors_errorType)], narrowed := true }
def RelayMailUptoSaid : Prop := relayMailUptoRow.holds Tryz.pinned (OpenSpec.upto relayMailSpec)

/-- 'deaddroplaw22.RelayForks', WHERE WHAT IT READS IS OF BULK AT MOST 1048576: true; the input reads as it did. -/
def relayForksUptoRow : OpenClaim := { program := "ytkbikblijipceaagreatdoor", sum := "ee6f522296e3128e7e9885292bf5bd9fb4efbca2fc1274326bcfd163906a6fe6", func := "deaddrop/deaddroplaw22.RelayForks", spec := "relayForks", inPlace := ["internal/reflectlite.ValueOf", "(internal/reflectlite.Value).Type", "(internal/reflectlite.Value).IsNil", "internal/reflectlite.TypeOf", "(internal/reflectlite.Value).Elem", "(internal/reflectlite.Value).Set", "internal/abi.NoEscape", "internal/bytealg.MakeNoZero"], unfollowed := true, recurses := true, named := ["errors.errorType"], apart := false, laid := [("errors.errorType", laid_errors_errorType)], narrowed := true }
def RelayForksUptoSaid : Prop := relayForksUptoRow.holds Tryz.pinned (OpenSpec.upto relayForksSpec)

/-- 'deaddroplaw22.RelayFull', WHERE WHAT IT READS IS OF BULK AT MOST 1048576: true; the input reads as it did. -/
def relayFullUptoRow : OpenClaim := { program := "ytkbikblijipceaagreatdoor", sum := "ee6f522296e3128e7e9885292bf5bd9fb4efbca2fc1274326bcfd163906a6fe6", func := "deaddrop/deaddroplaw22.RelayFull", spec := "relayFull", inPlace := ["internal/reflectlite.ValueOf", "(internal/reflectlite.Value).Type", "(internal/reflectlite.Value).IsNil", "internal/reflectlite.TypeOf", "(internal/reflectlite.Value).Elem", "(internal/reflectlite.Value).Set", "internal/abi.NoEscape", "internal/bytealg.MakeNoZero"], unfollowed := true, recurses := true, named := ["errors.errorType"], apart := false, laid := [("errors.errorType", laid_errors_errorType)], narrowed := true }
def RelayFullUptoSaid : Prop := relayFullUptoRow.holds Tryz.pinned (OpenSpec.upto relayFullSpec)

/-- 'deaddroplaw22.RelayShares', WHERE WHAT IT READS IS OF BULK AT MOST 1048576: true; the input reads as it did. -/
def relaySharesUptoRow : OpenClaim := { program := "ytkbikblijipceaagreatdoor", sum := "ee6f522296e3128e7e9885292bf5bd9fb4efbca2fc1274326bcfd163906a6fe6", func := "deaddrop/deaddroplaw22.RelayShares", spec := "relayShares", inPlace := ["internal/reflectlite.ValueOf", "(internal/reflectlite.Value).Type", "(internal/reflectlite.Value).IsNil", "internal/reflectlite.TypeOf", "(internal/reflectlite.Value).Elem", "(internal/reflectlite.Value).Set", "internal/abi.NoEscape", "internal/bytealg.MakeNoZero"], unfollowed := true, recurses := true, named := ["errors.errorType"], apart := false, laid := [("errors.errorType", laid_errors_errorType)], narrowed := true }
def RelaySharesUptoSaid : Prop := relaySharesUptoRow.holds Tryz.pinned (OpenSpec.upto relaySharesSpec)

/-- 'deaddroplaw22.RelayLogs', WHERE WHAT IT READS IS OF BULK AT MOST 1048576: true; the input reads as it did. -/
def relayLogsUptoRow : OpenClaim := { program := "ytkbikblijipceaagreatdoor", sum := "ee6f522296e3128e7e9885292bf5bd9fb4efbca2fc1274326bcfd163906a6fe6", func := "deaddrop/deaddroplaw22.RelayLogs", spec := "relayLogs", inPlace := ["internal/reflectlite.ValueOf", "(internal/reflectlite.Value).Type", "(internal/reflectlite.Value).IsNil", "internal/reflectlite.TypeOf", "(internal/reflectlite.Value).Elem", "(internal/reflectlite.Value).Set", "internal/abi.NoEscape", "internal/bytealg.MakeNoZero"], unfollowed := true, recurses := true, named := ["errors.errorType"], apart := false, laid := [("errors.errorType", laid_errors_errorType)], narrowed := true }
def RelayLogsUptoSaid : Prop := relayLogsUptoRow.holds Tryz.pinned (OpenSpec.upto relayLogsSpec)

/-- 'deaddroplaw22.RelayRevoked', WHERE WHAT IT READS IS OF BULK AT MOST 1048576: true; the input reads as it did. -/
def relayRevokedUptoRow : OpenClaim := { program := "ytkbikblijipceaagreatdoor", sum := "ee6f522296e3128e7e9885292bf5bd9fb4efbca2fc1274326bcfd163906a6fe6", func := "deaddrop/deaddroplaw22.RelayRevoked", spec := "relayRevoked", inPlace := ["internal/reflectlite.ValueOf", "(internal/reflectlite.Value).Type", "(internal/reflectlite.Value).IsNil", "internal/reflectlite.TypeOf", "(internal/reflectlite.Value).Elem", "(internal/reflectlite.Value).Set", "internal/abi.NoEscape", "internal/bytealg.MakeNoZero"], unfollowed := true, recurses := true, named := ["errors.errorType"], apart := false, laid := [("errors.errorType", laid_errors_errorType)], narrowed := true }
def RelayRevokedUptoSaid : Prop := relayRevokedUptoRow.holds Tryz.pinned (OpenSpec.upto relayRevokedSpec)

/-- 'deaddroplaw22.RelayMade', WHERE WHAT IT READS IS OF BULK AT MOST 1048576: true; the input reads as it did. -/
def relayMadeUptoRow : OpenClaim := { program := "ytkbikblijipceaagreatdoor", sum := "ee6f522296e3128e7e9885292bf5bd9fb4efbca2fc1274326bcfd163906a6fe6", func := "deaddrop/deaddroplaw22.RelayMade", spec := "relayMade", inPlace := ["internal/reflectlite.ValueOf", "(internal/reflectlite.Value).Type", "(internal/reflectlite.Value).IsNil", "internal/reflectlite.TypeOf", "(internal/reflectlite.Value).Elem", "(internal/reflectlite.Value).Set", "internal/abi.NoEscape", "internal/bytealg.MakeNoZero"], unfollowed := true, recurses := true, named := ["errors.errorType"], apart := false, laid := [("errors.errorType", laid_errors_errorType)], narrowed := true }
def RelayMadeUptoSaid : Prop := relayMadeUptoRow.holds Tryz.pinned (OpenSpec.upto relayMadeSpec)

/-- 'deaddroplaw22.RelayAll', WHERE WHAT IT READS IS OF BULK AT MOST 1048576: true; the input reads as it did. -/
def relayAllUptoRow : OpenClaim := { program := "ytkbikblijipceaagreatdoor", sum := "ee6f522296e3128e7e9885292bf5bd9fb4efbca2fc1274326bcfd163906a6fe6", func := "deaddrop/deaddroplaw22.RelayAll", spec := "relayAll", inPlace := ["internal/reflectlite.ValueOf", "(internal/reflectlite.Value).Type", "(internal/reflectlite.Value).IsNil", "internal/reflectlite.TypeOf", "(internal/reflectlite.Value).Elem", "(internal/reflectlite.Value).Set", "internal/abi.NoEscape", "internal/bytealg.MakeNoZero"], unfollowed := true, recurses := true, named := ["errors.errorType"], apart := false, laid := [("errors.errorType", laid_errors_errorType)], narrowed := true }
def RelayAllUptoSaid : Prop := relayAllUptoRow.holds Tryz.pinned (OpenSpec.upto relayAllSpec)

end Rows
end Go.Proofs.YtkbikblijipceaaGreatDoor
