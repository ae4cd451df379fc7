/-
  NARROWER THAN 'FOR EVERY INPUT', by the rows' own cells (each row's printed sentence says how): SaveHas: laid · SaveLarge: laid · SaveTwo: laid · SaveFalls: laid · SaveTorn: laid.
  DERIVED. THE GIVEN ROWS OF THIS SEAT. 5 by the template 'for every input the law returns true; each argument reads behind the call as it read before'; 0 by the template 'total and deterministic' (their statements: YtknmmpgpddhliaaDoorTotals.lean).
  GIVEN WITH THE SEED: the statements are not yours to turn. If you find one false, say at which input.
  Laid BY PROGRAM, IN A SANDBOX (cutbox-rows.mjs): the forced cells as the released guide's own fill.sh prints them over the translation a77f703a568b47b0… (all of the seat's roots in one cut). By AI agents, Wed Nov 11 2026. No macro, syntax, notation, axiom, sorry.
-/
import Derived.Test.YtknmmpgpddhliaaDoorChecked
import GoSem.Claim
import GoSem.ClaimJoined
import GoSem.ClaimMapViews
import Derived.JoinedTies
import Derived.KernelRfl
namespace Go.Proofs.YtknmmpgpddhliaaDoor
/- THE CELL 'sum', in the pinned program and in every row, IS THE sha256 OF THE DUMP (.gsa) THAT YtknmmpgpddhliaaDoorProg.lean LOADS. Nothing in Lean hashes anything: it is a label: what it is worth is what the hold of that sum in a sandbox is worth. -/
noncomputable def Tryd.pinned : Pinned := { name := "ytknmmpgpddhliaadoor", sum := "a77f703a568b47b0e999ecf839f2efd9d6469f7d8fccf4bdccb8258047a26aba", checked := Tryd.checked }
namespace Rows
def none {H : Type} : Left H := { results := [], args := [] }

/- WHAT THE LISTED PACKAGE-LEVEL VARIABLES READ AS WHEN THE CALL BEGINS. Each datum BY PROGRAM (the guide's laid-datum.mjs) off the statement by which the dump's own 'gosem.cut.vars' lays the variable. In a bare row this is a premise. The card (YtknmmpgpddhliaaDoorCards.lean) ties it to the program's text. -/
def laid_errors_errorType {H : Type} : DataW H := .iface "internal/reflectlite.rtype" (.agg [.ptr (.lit (.string [101, 114, 114, 111, 114]))])

/-- 'deaddroplaw24.SaveHas': WHATEVER THE INPUT: true; the input reads as it did. -/
def saveHasSpec : ChangeSpec := { name := "saveHas", fn := fun _ => fun
  | [d1, d2] => { results := [.lit (.bool true)], args := [d1, d2] }
  | _ => none }
def saveHasRow : OpenClaim := { program := "ytknmmpgpddhliaadoor", sum := "a77f703a568b47b0e999ecf839f2efd9d6469f7d8fccf4bdccb8258047a26aba", func := "deaddrop/deaddroplaw24.SaveHas", spec := "saveHas", inPlace := ["internal/reflectlite.ValueOf", "(internal/reflectlite.Value).Type", "(internal/reflectlite.Value).IsNil", "internal/reflectlite.TypeOf", "(internal/reflectlite.Value).Elem", "(internal/reflectlite.Value).Set"], unfollowed := true, recurses := true, named := ["errors.errorType"], apart := false, laid := [("errors.errorType", laid_errors_errorType)] }
def SaveHasSaid : Prop := saveHasRow.holds Tryd.pinned (OpenSpec.ofChange saveHasSpec)

/-- ITS FALSE NEIGHBOUR: 'it returns false'. Refute it at one input. -/
def saveHasWrong : ChangeSpec := { name := "saveHas", fn := fun _ => fun
  | [d1, d2] => { results := [.lit (.bool false)], args := [d1, d2] }
  | _ => none }
def SaveHasWrongFalsely : Prop := saveHasRow.holds Tryd.pinned (OpenSpec.ofChange saveHasWrong)

/-- 'deaddroplaw24.SaveLarge': WHATEVER THE INPUT: true; the input reads as it did. -/
def saveLargeSpec : ChangeSpec := { name := "saveLarge", fn := fun _ => fun
  | [d1, d2] => { results := [.lit (.bool true)], args := [d1, d2] }
  | _ => none }
def saveLargeRow : OpenClaim := { program := "ytknmmpgpddhliaadoor", sum := "a77f703a568b47b0e999ecf839f2efd9d6469f7d8fccf4bdccb8258047a26aba", func := "deaddrop/deaddroplaw24.SaveLarge", spec := "saveLarge", inPlace := ["internal/reflectlite.ValueOf", "(internal/reflectlite.Value).Type", "(internal/reflectlite.Value).IsNil", "internal/reflectlite.TypeOf", "(internal/reflectlite.Value).Elem", "(internal/reflectlite.Value).Set"], unfollowed := true, recurses := true, named := ["errors.errorType"], apart := false, laid := [("errors.errorType", laid_errors_errorType)] }
def SaveLargeSaid : Prop := saveLargeRow.holds Tryd.pinned (OpenSpec.ofChange saveLargeSpec)

/-- ITS FALSE NEIGHBOUR: 'it returns false'. Refute it at one input. -/
def saveLargeWrong : ChangeSpec := { name := "saveLarge", fn := fun _ => fun
  | [d1, d2] => { results := [.lit (.bool false)], args := [d1, d2] }
  | _ => none }
def SaveLargeWrongFalsely : Prop := saveLargeRow.holds Tryd.pinned (OpenSpec.ofChange saveLargeWrong)

/-- 'deaddroplaw24.SaveTwo': WHATEVER THE INPUT: true; the input reads as it did. -/
def saveTwoSpec : ChangeSpec := { name := "saveTwo", fn := fun _ => fun
  | [d1, d2] => { results := [.lit (.bool true)], args := [d1, d2] }
  | _ => none }
def saveTwoRow : OpenClaim := { program := "ytknmmpgpddhliaadoor", sum := "a77f703a568b47b0e999ecf839f2efd9d6469f7d8fccf4bdccb8258047a26aba", func := "deaddrop/deaddroplaw24.SaveTwo", spec := "saveTwo", inPlace := ["internal/reflectlite.ValueOf", "(internal/reflectlite.Value).Type", "(internal/reflectlite.Value).IsNil", "internal/reflectlite.TypeOf", "(internal/reflectlite.Value).Elem", "(internal/reflectlite.Value).Set"], unfollowed := true, recurses := true, named := ["errors.errorType"], apart := false, laid := [("errors.errorType", laid_errors_errorType)] }
def SaveTwoSaid : Prop := saveTwoRow.holds Tryd.pinned (OpenSpec.ofChange saveTwoSpec)

/-- ITS FALSE NEIGHBOUR: 'it returns false'. Refute it at one input. -/
def saveTwoWrong : ChangeSpec := { name := "saveTwo", fn := fun _ => fun
  | [d1, d2] => { results := [.lit (.bool false)], args := [d1, d2] }
  | _ => none }
def SaveTwoWrongFalsely : Prop := saveTwoRow.holds Tryd.pinned (OpenSpec.ofChange saveTwoWrong)

/-- 'deaddroplaw24.SaveFalls': WHATEVER THE INPUT: true; the input reads as it did. -/
def saveFallsSpec : ChangeSpec := { name := "saveFalls", fn := fun _ => fun
  | [d1, d2, d3, d4] => { results := [.lit (.bool true)], args := [d1, d2, d3, d4] }
  | _ => none }
def saveFallsRow : OpenClaim := { program := "ytknmmpgpddhliaadoor", sum := "a77f703a568b47b0e999ecf839f2efd9d6469f7d8fccf4bdccb8258047a26aba", func := "deaddrop/deaddroplaw24.SaveFalls", spec := "saveFalls", inPlace := ["internal/reflectlite.ValueOf", "(internal/reflectlite.Value).Type", "(internal/reflectlite.Value).IsNil", "internal/reflectlite.TypeOf", "(internal/reflectlite.Value).Elem", "(internal/reflectlite.Value).Set"], unfollowed := true, recurses := true, named := ["errors.errorType"], apart := false, laid := [("errors.errorType", laid_errors_errorType)] }
def SaveFallsSaid : Prop := saveFallsRow.holds Tryd.pinned (OpenSpec.ofChange saveFallsSpec)

/-- ITS FALSE NEIGHBOUR: 'it returns false'. Refute it at one input. -/
def saveFallsWrong : ChangeSpec := { name := "saveFalls", fn := fun _ => fun
  | [d1, d2, d3, d4] => { results := [.lit (.bool false)], args := [d1, d2, d3, d4] }
  | _ => none }
def SaveFallsWrongFalsely : Prop := saveFallsRow.holds Tryd.pinned (OpenSpec.ofChange saveFallsWrong)

/-- 'deaddroplaw24.SaveTorn': WHATEVER THE INPUT: true; the input reads as it did. -/
def saveTornSpec : ChangeSpec := { name := "saveTorn", fn := fun _ => fun
  | [d1, d2] => { results := [.lit (.bool true)], args := [d1, d2] }
  | _ => none }
def saveTornRow : OpenClaim := { program := "ytknmmpgpddhliaadoor", sum := "a77f703a568b47b0e999ecf839f2efd9d6469f7d8fccf4bdccb8258047a26aba", func := "deaddrop/deaddroplaw24.SaveTorn", spec := "saveTorn", inPlace := ["internal/reflectlite.ValueOf", "(internal/reflectlite.Value).Type", "(internal/reflectlite.Value).IsNil", "internal/reflectlite.TypeOf", "(internal/reflectlite.Value).Elem", "(internal/reflectlite.Value).Set"], unfollowed := true, recurses := true, named := ["errors.errorType"], apart := false, laid := [("errors.errorType", laid_errors_errorType)] }
def SaveTornSaid : Prop := saveTornRow.holds Tryd.pinned (OpenSpec.ofChange saveTornSpec)

/-- ITS FALSE NEIGHBOUR: 'it returns false'. Refute it at one input. -/
def saveTornWrong : ChangeSpec := { name := "saveTorn", fn := fun _ => fun
  | [d1, d2] => { results := [.lit (.bool false)], args := [d1, d2] }
  | _ => none }
def SaveTornWrongFalsely : Prop := saveTornRow.holds Tryd.pinned (OpenSpec.ofChange saveTornWrong)

/- THE SECOND FORM. 'bulk': how many values and letters a reading holds, each counted each time it is reached (what is shared counts as often as it is met; a slice's spare places count too). A statement '..UptoSaid' is the law's where the arguments, and the package variables that the reading takes, are together of bulk at most 1048576: NARROWER than '..Said'. Prove '..Said' where nothing that the law and all that it calls make is longer than what came in: it says more and counts as full. Else prove '..UptoSaid'. A law counts once. -/
mutual
def uptoBulk {H : Type} : DataW H → Nat
  | .lit (.string bytes) => bytes.length + 1
  | .lit _ => 1
  | .nil => 1
  | .ptr d => uptoBulk d + 1
  | .slice elems spare => uptoBulkAll elems + uptoBulkAll spare + 1
  | .agg parts => uptoBulkAll parts + 1
  | .iface _ d => uptoBulk d + 1
  | .map entries => uptoBulkEntries entries + 1
  | .held _ => 1
def uptoBulkAll {H : Type} : List (DataW H) → Nat
  | [] => 0
  | d :: r => uptoBulk d + uptoBulkAll r
def uptoBulkEntries {H : Type} : List (Lit × DataW H) → Nat
  | [] => 0
  | x :: r => uptoBulkEntry x + uptoBulkEntries r
def uptoBulkEntry {H : Type} : Lit × DataW H → Nat
  | (.string bytes, d) => bytes.length + uptoBulk d + 1
  | (_, d) => uptoBulk d + 1
 end
def uptoSmall : (H : Type) → List (DataW H) → Bool := fun _ ds => decide (uptoBulkAll ds ≤ 1048576)
def OpenSpec.upto (s : _root_.Go.ChangeSpec) : _root_.Go.OpenSpec := { _root_.Go.OpenSpec.ofChange s with cond := some uptoSmall }

/-- 'deaddroplaw24.SaveHas', WHERE WHAT IT READS IS OF BULK AT MOST 1048576: true; the input reads as it did. -/
def saveHasUptoRow : OpenClaim := { program := "ytknmmpgpddhliaadoor", sum := "a77f703a568b47b0e999ecf839f2efd9d6469f7d8fccf4bdccb8258047a26aba", func := "deaddrop/deaddroplaw24.SaveHas", spec := "saveHas", inPlace := ["internal/reflectlite.ValueOf", "(internal/reflectlite.Value).Type", "(internal/reflectlite.Value).IsNil", "internal/reflectlite.TypeOf", "(internal/reflectlite.Value).Elem", "(internal/reflectlite.Value).Set"], unfollowed := true, recurses := true, named := ["errors.errorType"], apart := false, laid := [("errors.errorType", laid_errors_errorType)], narrowed := true }
def SaveHasUptoSaid : Prop := saveHasUptoRow.holds Tryd.pinned (OpenSpec.upto saveHasSpec)

/-- 'deaddroplaw24.SaveLarge', WHERE WHAT IT READS IS OF BULK AT MOST 1048576: true; the input reads as it did. -/
def saveLargeUptoRow : OpenClaim := { program := "ytknmmpgpddhliaadoor", sum := "a77f703a568b47b0e999ecf839f2efd9d6469f7d8fccf4bdccb8258047a26aba", func := "deaddrop/deaddroplaw24.SaveLarge", spec := "saveLarge", inPlace := ["internal/reflectlite.ValueOf", "(internal/reflectlite.Value).Type", "(internal/reflectlite.Value).IsNil", "internal/reflectlite.TypeOf", "(internal/reflectlite.Value).Elem", "(internal/reflectlite.Value).Set"], unfollowed := true, recurses := true, named := ["errors.errorType"], apart := false, laid := [("errors.errorType", laid_errors_errorType)], narrowed := true }
def SaveLargeUptoSaid : Prop := saveLargeUptoRow.holds Tryd.pinned (OpenSpec.upto saveLargeSpec)

/-- 'deaddroplaw24.SaveTwo', WHERE WHAT IT READS IS OF BULK AT MOST 1048576: true; the input reads as it did. -/
def saveTwoUptoRow : OpenClaim := { program := "ytknmmpgpddhliaadoor", sum := "a77f703a568b47b0e999ecf839f2efd9d6469f7d8fccf4bdccb8258047a26aba", func := "deaddrop/deaddroplaw24.SaveTwo", spec := "saveTwo", inPlace := ["internal/reflectlite.ValueOf", "(internal/reflectlite.Value).Type", "(internal/reflectlite.Value).IsNil", "internal/reflectlite.TypeOf", "(internal/reflectlite.Value).Elem", "(internal/reflectlite.Value).Set"], unfollowed := true, recurses := true, named := ["errors.errorType"], apart := false, laid := [("errors.errorType", laid_errors_errorType)], narrowed := true }
def SaveTwoUptoSaid : Prop := saveTwoUptoRow.holds Tryd.pinned (OpenSpec.upto saveTwoSpec)

/-- 'deaddroplaw24.SaveFalls', WHERE WHAT IT READS IS OF BULK AT MOST 1048576: true; the input reads as it did. -/
def saveFallsUptoRow : OpenClaim := { program := "ytknmmpgpddhliaadoor", sum := "a77f703a568b47b0e999ecf839f2efd9d6469f7d8fccf4bdccb8258047a26aba", func := "deaddrop/deaddroplaw24.SaveFalls", spec := "saveFalls", inPlace := ["internal/reflectlite.ValueOf", "(internal/reflectlite.Value).Type", "(internal/reflectlite.Value).IsNil", "internal/reflectlite.TypeOf", "(internal/reflectlite.Value).Elem", "(internal/reflectlite.Value).Set"], unfollowed := true, recurses := true, named := ["errors.errorType"], apart := false, laid := [("errors.errorType", laid_errors_errorType)], narrowed := true }
def SaveFallsUptoSaid : Prop := saveFallsUptoRow.holds Tryd.pinned (OpenSpec.upto saveFallsSpec)

/-- 'deaddroplaw24.SaveTorn', WHERE WHAT IT READS IS OF BULK AT MOST 1048576: true; the input reads as it did. -/
def saveTornUptoRow : OpenClaim := { program := "ytknmmpgpddhliaadoor", sum := "a77f703a568b47b0e999ecf839f2efd9d6469f7d8fccf4bdccb8258047a26aba", func := "deaddrop/deaddroplaw24.SaveTorn", spec := "saveTorn", inPlace := ["internal/reflectlite.ValueOf", "(internal/reflectlite.Value).Type", "(internal/reflectlite.Value).IsNil", "internal/reflectlite.TypeOf", "(internal/reflectlite.Value).Elem", "(internal/reflectlite.Value).Set"], unfollowed := true, recurses := true, named := ["errors.errorType"], apart := false, laid := [("errors.errorType", laid_errors_errorType)], narrowed := true }
def SaveTornUptoSaid : Prop := saveTornUptoRow.holds Tryd.pinned (OpenSpec.upto saveTornSpec)

end Rows
end Go.Proofs.YtknmmpgpddhliaaDoor
