/-
  NARROWER THAN 'FOR EVERY INPUT', by the rows' own cells (each row's printed sentence says how): RequestAll: laid · RequestBack: laid · RequestSizes: laid · RequestApart: laid.
  DERIVED. THE GIVEN ROWS OF THIS SEAT. 4 by the template 'for every input the law returns true; each argument reads behind the call as it read before'; 0 by the template 'total and deterministic' (their statements: YtlacdlafoclaeaaDoorTotals.lean).
  GIVEN WITH THE SEED: the statements are not yours to turn. If you find one false, say at which input.
  Laid BY PROGRAM, IN A SANDBOX (cutbox-rows.mjs): the forced cells as the released guide's own fill.sh prints them over the translation 9e3387241771e790… (all of the seat's roots in one cut). By AI agents, Wed Nov 11 2026. No macro, syntax, notation, axiom, sorry.
-/
import Derived.Test.YtlacdlafoclaeaaDoorChecked
import GoSem.Claim
import GoSem.ClaimJoined
import GoSem.ClaimMapViews
import Derived.JoinedTies
import Derived.KernelRfl
namespace Go.Proofs.YtlacdlafoclaeaaDoor
/- THE CELL 'sum', in the pinned program and in every row, IS THE sha256 OF THE DUMP (.gsa) THAT YtlacdlafoclaeaaDoorProg.lean LOADS. Nothing in Lean hashes anything: it is a label: what it is worth is what the hold of that sum in a sandbox is worth. -/
noncomputable def Tryd.pinned : Pinned := { name := "ytlacdlafoclaeaadoor", sum := "9e3387241771e790dc9fe466e8f8b6ac77eab0a32b917c7c0fe3e3c3f9011c4e", checked := Tryd.checked }
namespace Rows
def none {H : Type} : Left H := { results := [], args := [] }

/- WHAT THE LISTED PACKAGE-LEVEL VARIABLES READ AS WHEN THE CALL BEGINS. Each datum BY PROGRAM (the guide's laid-datum.mjs) off the statement by which the dump's own 'gosem.cut.vars' lays the variable. In a bare row this is a premise. The card (YtlacdlafoclaeaaDoorCards.lean) ties it to the program's text. -/
def laid_errors_errorType {H : Type} : DataW H := .iface "internal/reflectlite.rtype" (.agg [.ptr (.lit (.string [101, 114, 114, 111, 114]))])

/-- 'deaddroplaw21.RequestAll': WHATEVER THE INPUT: true; the input reads as it did. -/
def requestAllSpec : ChangeSpec := { name := "requestAll", fn := fun _ => fun
  | [d1, d2, d3] => { results := [.lit (.bool true)], args := [d1, d2, d3] }
  | _ => none }
def requestAllRow : OpenClaim := { program := "ytlacdlafoclaeaadoor", sum := "9e3387241771e790dc9fe466e8f8b6ac77eab0a32b917c7c0fe3e3c3f9011c4e", func := "deaddrop/deaddroplaw21.RequestAll", spec := "requestAll", inPlace := ["internal/reflectlite.ValueOf", "(internal/reflectlite.Value).Type", "(internal/reflectlite.Value).IsNil", "internal/reflectlite.TypeOf", "(internal/reflectlite.Value).Elem", "(internal/reflectlite.Value).Set"], unfollowed := true, recurses := true, named := ["errors.errorType"], apart := false, laid := [("errors.errorType", laid_errors_errorType)] }
def RequestAllSaid : Prop := requestAllRow.holds Tryd.pinned (OpenSpec.ofChange requestAllSpec)

/-- ITS FALSE NEIGHBOUR: 'it returns false'. Refute it at one input. -/
def requestAllWrong : ChangeSpec := { name := "requestAll", fn := fun _ => fun
  | [d1, d2, d3] => { results := [.lit (.bool false)], args := [d1, d2, d3] }
  | _ => none }
def RequestAllWrongFalsely : Prop := requestAllRow.holds Tryd.pinned (OpenSpec.ofChange requestAllWrong)

/-- 'deaddroplaw21.RequestBack': WHATEVER THE INPUT: true; the input reads as it did. -/
def requestBackSpec : ChangeSpec := { name := "requestBack", fn := fun _ => fun
  | [d1, d2, d3, d4, d5] => { results := [.lit (.bool true)], args := [d1, d2, d3, d4, d5] }
  | _ => none }
def requestBackRow : OpenClaim := { program := "ytlacdlafoclaeaadoor", sum := "9e3387241771e790dc9fe466e8f8b6ac77eab0a32b917c7c0fe3e3c3f9011c4e", func := "deaddrop/deaddroplaw21.RequestBack", spec := "requestBack", inPlace := ["internal/reflectlite.ValueOf", "(internal/reflectlite.Value).Type", "(internal/reflectlite.Value).IsNil", "internal/reflectlite.TypeOf", "(internal/reflectlite.Value).Elem", "(internal/reflectlite.Value).Set"], unfollowed := true, recurses := true, named := ["errors.errorType"], apart := false, laid := [("errors.errorType", laid_errors_errorType)] }
def RequestBackSaid : Prop := requestBackRow.holds Tryd.pinned (OpenSpec.ofChange requestBackSpec)

/-- ITS FALSE NEIGHBOUR: 'it returns false'. Refute it at one input. -/
def requestBackWrong : ChangeSpec := { name := "requestBack", fn := fun _ => fun
  | [d1, d2, d3, d4, d5] => { results := [.lit (.bool false)], args := [d1, d2, d3, d4, d5] }
  | _ => none }
def RequestBackWrongFalsely : Prop := requestBackRow.holds Tryd.pinned (OpenSpec.ofChange requestBackWrong)

/-- 'deaddroplaw21.RequestSizes': WHATEVER THE INPUT: true; the input reads as it did. -/
def requestSizesSpec : ChangeSpec := { name := "requestSizes", fn := fun _ => fun
  | [d1, d2, d3, d4] => { results := [.lit (.bool true)], args := [d1, d2, d3, d4] }
  | _ => none }
def requestSizesRow : OpenClaim := { program := "ytlacdlafoclaeaadoor", sum := "9e3387241771e790dc9fe466e8f8b6ac77eab0a32b917c7c0fe3e3c3f9011c4e", func := "deaddrop/deaddroplaw21.RequestSizes", spec := "requestSizes", inPlace := ["internal/reflectlite.ValueOf", "(internal/reflectlite.Value).Type", "(internal/reflectlite.Value).IsNil", "internal/reflectlite.TypeOf", "(internal/reflectlite.Value).Elem", "(internal/reflectlite.Value).Set"], unfollowed := true, recurses := true, named := ["errors.errorType"], apart := false, laid := [("errors.errorType", laid_errors_errorType)] }
def RequestSizesSaid : Prop := requestSizesRow.holds Tryd.pinned (OpenSpec.ofChange requestSizesSpec)

/-- ITS FALSE NEIGHBOUR: 'it returns false'. Refute it at one input. -/
def requestSizesWrong : ChangeSpec := { name := "requestSizes", fn := fun _ => fun
  | [d1, d2, d3, d4] => { results := [.lit (.bool false)], args := [d1, d2, d3, d4] }
  | _ => none }
def RequestSizesWrongFalsely : Prop := requestSizesRow.holds Tryd.pinned (OpenSpec.ofChange requestSizesWrong)

/-- 'deaddroplaw21.RequestApart': WHATEVER THE INPUT: true; the input reads as it did. -/
def requestApartSpec : ChangeSpec := { name := "requestApart", fn := fun _ => fun
  | [d1, d2, d3] => { results := [.lit (.bool true)], args := [d1, d2, d3] }
  | _ => none }
def requestApartRow : OpenClaim := { program := "ytlacdlafoclaeaadoor", sum := "9e3387241771e790dc9fe466e8f8b6ac77eab0a32b917c7c0fe3e3c3f9011c4e", func := "deaddrop/deaddroplaw21.RequestApart", spec := "requestApart", inPlace := ["internal/reflectlite.ValueOf", "(internal/reflectlite.Value).Type", "(internal/reflectlite.Value).IsNil", "internal/reflectlite.TypeOf", "(internal/reflectlite.Value).Elem", "(internal/reflectlite.Value).Set"], unfollowed := true, recurses := true, named := ["errors.errorType"], apart := false, laid := [("errors.errorType", laid_errors_errorType)] }
def RequestApartSaid : Prop := requestApartRow.holds Tryd.pinned (OpenSpec.ofChange requestApartSpec)

/-- ITS FALSE NEIGHBOUR: 'it returns false'. Refute it at one input. -/
def requestApartWrong : ChangeSpec := { name := "requestApart", fn := fun _ => fun
  | [d1, d2, d3] => { results := [.lit (.bool false)], args := [d1, d2, d3] }
  | _ => none }
def RequestApartWrongFalsely : Prop := requestApartRow.holds Tryd.pinned (OpenSpec.ofChange requestApartWrong)

/- THE SECOND FORM. 'bulk': how many values and letters a reading holds, each counted each time it is reached (what is shared counts as often as it is met; a slice's spare places count too). A statement '..UptoSaid' is the law's where the arguments, and the package variables that the reading takes, are together of bulk at most 1048576: NARROWER than '..Said'. Prove '..Said' where nothing that the law and all that it calls make is longer than what came in: it says more and counts as full. Else prove '..UptoSaid'. A law counts once. -/
mutual
def uptoBulk {H : Type} : DataW H → Nat
  | .lit (.string bytes) => bytes.length + 1
  | .lit _ => 1
  | .nil => 1
  | .ptr d => uptoBulk d + 1
  | .slice elems spare => uptoBulkAll elems + uptoBulkAll spare + 1
  | .agg parts => uptoBulkAll parts + 1
  | .iface _ d => uptoBulk d + 1
  | .map entries => uptoBulkEntries entries + 1
  | .held _ => 1
def uptoBulkAll {H : Type} : List (DataW H) → Nat
  | [] => 0
  | d :: r => uptoBulk d + uptoBulkAll r
def uptoBulkEntries {H : Type} : List (Lit × DataW H) → Nat
  | [] => 0
  | x :: r => uptoBulkEntry x + uptoBulkEntries r
def uptoBulkEntry {H : Type} : Lit × DataW H → Nat
  | (.string bytes, d) => bytes.length + uptoBulk d + 1
  | (_, d) => uptoBulk d + 1
 end
def uptoSmall : (H : Type) → List (DataW H) → Bool := fun _ ds => decide (uptoBulkAll ds ≤ 1048576)
def OpenSpec.upto (s : _root_.Go.ChangeSpec) : _root_.Go.OpenSpec := { _root_.Go.OpenSpec.ofChange s with cond := some uptoSmall }

/-- 'deaddroplaw21.RequestAll', WHERE WHAT IT READS IS OF BULK AT MOST 1048576: true; the input reads as it did. -/
def requestAllUptoRow : OpenClaim := { program := "ytlacdlafoclaeaadoor", sum := "9e3387241771e790dc9fe466e8f8b6ac77eab0a32b917c7c0fe3e3c3f9011c4e", func := "deaddrop/deaddroplaw21.RequestAll", spec := "requestAll", inPlace := ["internal/reflectlite.ValueOf", "(internal/reflectlite.Value).Type", "(internal/reflectlite.Value).IsNil", "internal/reflectlite.TypeOf", "(internal/reflectlite.Value).Elem", "(internal/reflectlite.Value).Set"], unfollowed := true, recurses := true, named := ["errors.errorType"], apart := false, laid := [("errors.errorType", laid_errors_errorType)], narrowed := true }
def RequestAllUptoSaid : Prop := requestAllUptoRow.holds Tryd.pinned (OpenSpec.upto requestAllSpec)

/-- 'deaddroplaw21.RequestBack', WHERE WHAT IT READS IS OF BULK AT MOST 1048576: true; the input reads as it did. -/
def requestBackUptoRow : OpenClaim := { program := "ytlacdlafoclaeaadoor", sum := "9e3387241771e790dc9fe466e8f8b6ac77eab0a32b917c7c0fe3e3c3f9011c4e", func := "deaddrop/deaddroplaw21.RequestBack", spec := "requestBack", inPlace := ["internal/reflectlite.ValueOf", "(internal/reflectlite.Value).Type", "(internal/reflectlite.Value).IsNil", "internal/reflectlite.TypeOf", "(internal/reflectlite.Value).Elem", "(internal/reflectlite.Value).Set"], unfollowed := true, recurses := true, named := ["errors.errorType"], apart := false, laid := [("errors.errorType", laid_errors_errorType)], narrowed := true }
def RequestBackUptoSaid : Prop := requestBackUptoRow.holds Tryd.pinned (OpenSpec.upto requestBackSpec)

/-- 'deaddroplaw21.RequestSizes', WHERE WHAT IT READS IS OF BULK AT MOST 1048576: true; the input reads as it did. -/
def requestSizesUptoRow : OpenClaim := { program := "ytlacdlafoclaeaadoor", sum := "9e3387241771e790dc9fe466e8f8b6ac77eab0a32b917c7c0fe3e3c3f9011c4e", func := "deaddrop/deaddroplaw21.RequestSizes", spec := "requestSizes", inPlace := ["internal/reflectlite.ValueOf", "(internal/reflectlite.Value).Type", "(internal/reflectlite.Value).IsNil", "internal/reflectlite.TypeOf", "(internal/reflectlite.Value).Elem", "(internal/reflectlite.Value).Set"], unfollowed := true, recurses := true, named := ["errors.errorType"], apart := false, laid := [("errors.errorType", laid_errors_errorType)], narrowed := true }
def RequestSizesUptoSaid : Prop := requestSizesUptoRow.holds Tryd.pinned (OpenSpec.upto requestSizesSpec)

/-- 'deaddroplaw21.RequestApart', WHERE WHAT IT READS IS OF BULK AT MOST 1048576: true; the input reads as it did. -/
def requestApartUptoRow : OpenClaim := { program := "ytlacdlafoclaeaadoor", sum := "9e3387241771e790dc9fe466e8f8b6ac77eab0a32b917c7c0fe3e3c3f9011c4e", func := "deaddrop/deaddroplaw21.RequestApart", spec := "requestApart", inPlace := ["internal/reflectlite.ValueOf", "(internal/reflectlite.Value).Type", "(internal/reflectlite.Value).IsNil", "internal/reflectlite.TypeOf", "(internal/reflectlite.Value).Elem", "(internal/reflectlite.Value).Set"], unfollowed := true, recurses := true, named := ["errors.errorType"], apart := false, laid := [("errors.errorType", laid_errors_errorType)], narrowed := true }
def RequestApartUptoSaid : Prop := requestApartUptoRow.holds Tryd.pinned (OpenSpec.upto requestApartSpec)

end Rows
end Go.Proofs.YtlacdlafoclaeaaDoor
