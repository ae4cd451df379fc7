/-
  No cell of these rows narrows 'for every input' (looked for: loops, veiled, ifaces, maps, wideKeys, modest, calm, conditions, laid).
  DERIVED. THE GIVEN ROWS OF THIS SEAT. 6 by the template 'for every input the law returns true; each argument reads behind the call as it read before'; 0 by the template 'total and deterministic' (their statements: YtcajgckomhhglaaTotals.lean).
  GIVEN WITH THE SEED: the statements are not yours to turn. If you find one false, say at which input.
  Laid BY PROGRAM, IN A SANDBOX (cutbox-rows.mjs): the forced cells as the released guide's own fill.sh prints them over the translation e1d87e3e3ee6432f… (all of the seat's roots in one cut). By AI agents, Wed Nov 11 2026. No macro, syntax, notation, axiom, sorry.
-/
import Derived.Test.YtcajgckomhhglaaChecked
import GoSem.Claim
import GoSem.ClaimJoined
import GoSem.ClaimMapViews
import Derived.JoinedTies
import Derived.KernelRfl
namespace Go.Proofs.Ytcajgckomhhglaa
/- THE CELL 'sum', in the pinned program and in every row, IS THE sha256 OF THE DUMP (.gsa) THAT YtcajgckomhhglaaProg.lean LOADS. Nothing in Lean hashes anything: it is a label: what it is worth is what the hold of that sum in a sandbox is worth. -/
noncomputable def Try.pinned : Pinned := { name := "ytcajgckomhhglaa", sum := "e1d87e3e3ee6432f1da12ec9f492a3448c2c3b8bc67928c386a9282401cfef0d", checked := Try.checked }
namespace Rows
def none {H : Type} : Left H := { results := [], args := [] }

/-- 'deaddroplaw6.BoxAll': WHATEVER THE INPUT: true; the input reads as it did. -/
def boxAllSpec : ChangeSpec := { name := "boxAll", fn := fun _ => fun
  | [d1, d2, d3, d4, d5] => { results := [.lit (.bool true)], args := [d1, d2, d3, d4, d5] }
  | _ => none }
def boxAllRow : OpenClaim := { program := "ytcajgckomhhglaa", sum := "e1d87e3e3ee6432f1da12ec9f492a3448c2c3b8bc67928c386a9282401cfef0d", func := "deaddrop/deaddroplaw6.BoxAll", spec := "boxAll", inPlace := ["internal/reflectlite.TypeOf", "internal/abi.NoEscape", "internal/bytealg.MakeNoZero"], unfollowed := true, recurses := true, apart := false }
def BoxAllSaid : Prop := boxAllRow.holds Try.pinned (OpenSpec.ofChange boxAllSpec)

/-- ITS FALSE NEIGHBOUR: 'it returns false'. Refute it at one input. -/
def boxAllWrong : ChangeSpec := { name := "boxAll", fn := fun _ => fun
  | [d1, d2, d3, d4, d5] => { results := [.lit (.bool false)], args := [d1, d2, d3, d4, d5] }
  | _ => none }
def BoxAllWrongFalsely : Prop := boxAllRow.holds Try.pinned (OpenSpec.ofChange boxAllWrong)

/-- 'deaddroplaw6.BoxBack': WHATEVER THE INPUT: true; the input reads as it did. -/
def boxBackSpec : ChangeSpec := { name := "boxBack", fn := fun _ => fun
  | [d1, d2, d3, d4, d5, d6, d7] => { results := [.lit (.bool true)], args := [d1, d2, d3, d4, d5, d6, d7] }
  | _ => none }
def boxBackRow : OpenClaim := { program := "ytcajgckomhhglaa", sum := "e1d87e3e3ee6432f1da12ec9f492a3448c2c3b8bc67928c386a9282401cfef0d", func := "deaddrop/deaddroplaw6.BoxBack", spec := "boxBack", inPlace := ["internal/reflectlite.TypeOf", "internal/abi.NoEscape", "internal/bytealg.MakeNoZero"], unfollowed := true, recurses := true, apart := false }
def BoxBackSaid : Prop := boxBackRow.holds Try.pinned (OpenSpec.ofChange boxBackSpec)

/-- ITS FALSE NEIGHBOUR: 'it returns false'. Refute it at one input. -/
def boxBackWrong : ChangeSpec := { name := "boxBack", fn := fun _ => fun
  | [d1, d2, d3, d4, d5, d6, d7] => { results := [.lit (.bool false)], args := [d1, d2, d3, d4, d5, d6, d7] }
  | _ => none }
def BoxBackWrongFalsely : Prop := boxBackRow.holds Try.pinned (OpenSpec.ofChange boxBackWrong)

/-- 'deaddroplaw6.BoxSides': WHATEVER THE INPUT: true; the input reads as it did. -/
def boxSidesSpec : ChangeSpec := { name := "boxSides", fn := fun _ => fun
  | [d1, d2, d3, d4] => { results := [.lit (.bool true)], args := [d1, d2, d3, d4] }
  | _ => none }
def boxSidesRow : OpenClaim := { program := "ytcajgckomhhglaa", sum := "e1d87e3e3ee6432f1da12ec9f492a3448c2c3b8bc67928c386a9282401cfef0d", func := "deaddrop/deaddroplaw6.BoxSides", spec := "boxSides", inPlace := ["internal/reflectlite.TypeOf", "internal/abi.NoEscape", "internal/bytealg.MakeNoZero"], unfollowed := true, recurses := true, apart := false }
def BoxSidesSaid : Prop := boxSidesRow.holds Try.pinned (OpenSpec.ofChange boxSidesSpec)

/-- ITS FALSE NEIGHBOUR: 'it returns false'. Refute it at one input. -/
def boxSidesWrong : ChangeSpec := { name := "boxSides", fn := fun _ => fun
  | [d1, d2, d3, d4] => { results := [.lit (.bool false)], args := [d1, d2, d3, d4] }
  | _ => none }
def BoxSidesWrongFalsely : Prop := boxSidesRow.holds Try.pinned (OpenSpec.ofChange boxSidesWrong)

/-- 'deaddroplaw6.BoxSizes': WHATEVER THE INPUT: true; the input reads as it did. -/
def boxSizesSpec : ChangeSpec := { name := "boxSizes", fn := fun _ => fun
  | [d1, d2, d3] => { results := [.lit (.bool true)], args := [d1, d2, d3] }
  | _ => none }
def boxSizesRow : OpenClaim := { program := "ytcajgckomhhglaa", sum := "e1d87e3e3ee6432f1da12ec9f492a3448c2c3b8bc67928c386a9282401cfef0d", func := "deaddrop/deaddroplaw6.BoxSizes", spec := "boxSizes", inPlace := ["internal/reflectlite.TypeOf", "internal/abi.NoEscape", "internal/bytealg.MakeNoZero"], unfollowed := true, recurses := true, apart := false }
def BoxSizesSaid : Prop := boxSizesRow.holds Try.pinned (OpenSpec.ofChange boxSizesSpec)

/-- ITS FALSE NEIGHBOUR: 'it returns false'. Refute it at one input. -/
def boxSizesWrong : ChangeSpec := { name := "boxSizes", fn := fun _ => fun
  | [d1, d2, d3] => { results := [.lit (.bool false)], args := [d1, d2, d3] }
  | _ => none }
def BoxSizesWrongFalsely : Prop := boxSizesRow.holds Try.pinned (OpenSpec.ofChange boxSizesWrong)

/-- 'deaddroplaw6.BoxStream': WHATEVER THE INPUT: true; the input reads as it did. -/
def boxStreamSpec : ChangeSpec := { name := "boxStream", fn := fun _ => fun
  | [d1, d2, d3, d4] => { results := [.lit (.bool true)], args := [d1, d2, d3, d4] }
  | _ => none }
def boxStreamRow : OpenClaim := { program := "ytcajgckomhhglaa", sum := "e1d87e3e3ee6432f1da12ec9f492a3448c2c3b8bc67928c386a9282401cfef0d", func := "deaddrop/deaddroplaw6.BoxStream", spec := "boxStream", inPlace := ["internal/reflectlite.TypeOf", "internal/abi.NoEscape", "internal/bytealg.MakeNoZero"], unfollowed := true, recurses := true, apart := false }
def BoxStreamSaid : Prop := boxStreamRow.holds Try.pinned (OpenSpec.ofChange boxStreamSpec)

/-- ITS FALSE NEIGHBOUR: 'it returns false'. Refute it at one input. -/
def boxStreamWrong : ChangeSpec := { name := "boxStream", fn := fun _ => fun
  | [d1, d2, d3, d4] => { results := [.lit (.bool false)], args := [d1, d2, d3, d4] }
  | _ => none }
def BoxStreamWrongFalsely : Prop := boxStreamRow.holds Try.pinned (OpenSpec.ofChange boxStreamWrong)

/-- 'deaddroplaw6.BoxShort': WHATEVER THE INPUT: true; the input reads as it did. -/
def boxShortSpec : ChangeSpec := { name := "boxShort", fn := fun _ => fun
  | [d1, d2] => { results := [.lit (.bool true)], args := [d1, d2] }
  | _ => none }
def boxShortRow : OpenClaim := { program := "ytcajgckomhhglaa", sum := "e1d87e3e3ee6432f1da12ec9f492a3448c2c3b8bc67928c386a9282401cfef0d", func := "deaddrop/deaddroplaw6.BoxShort", spec := "boxShort", inPlace := ["internal/abi.NoEscape", "internal/bytealg.MakeNoZero", "internal/reflectlite.TypeOf"], unfollowed := true, recurses := true, apart := false }
def BoxShortSaid : Prop := boxShortRow.holds Try.pinned (OpenSpec.ofChange boxShortSpec)

/-- ITS FALSE NEIGHBOUR: 'it returns false'. Refute it at one input. -/
def boxShortWrong : ChangeSpec := { name := "boxShort", fn := fun _ => fun
  | [d1, d2] => { results := [.lit (.bool false)], args := [d1, d2] }
  | _ => none }
def BoxShortWrongFalsely : Prop := boxShortRow.holds Try.pinned (OpenSpec.ofChange boxShortWrong)

/- THE SECOND FORM. 'bulk': how many values and letters a reading holds, each counted each time it is reached (what is shared counts as often as it is met; a slice's spare places count too). A statement '..UptoSaid' is the law's where the arguments, and the package variables that the reading takes, are together of bulk at most 1048576: NARROWER than '..Said'. Prove '..Said' where nothing that the law and all that it calls make is longer than what came in: it says more and counts as full. Else prove '..UptoSaid'. A law counts once. -/
mutual
def uptoBulk {H : Type} : DataW H → Nat
  | .lit (.string bytes) => bytes.length + 1
  | .lit _ => 1
  | .nil => 1
  | .ptr d => uptoBulk d + 1
  | .slice elems spare => uptoBulkAll elems + uptoBulkAll spare + 1
  | .agg parts => uptoBulkAll parts + 1
  | .iface _ d => uptoBulk d + 1
  | .map entries => uptoBulkEntries entries + 1
  | .held _ => 1
def uptoBulkAll {H : Type} : List (DataW H) → Nat
  | [] => 0
  | d :: r => uptoBulk d + uptoBulkAll r
def uptoBulkEntries {H : Type} : List (Lit × DataW H) → Nat
  | [] => 0
  | x :: r => uptoBulkEntry x + uptoBulkEntries r
def uptoBulkEntry {H : Type} : Lit × DataW H → Nat
  | (.string bytes, d) => bytes.length + uptoBulk d + 1
  | (_, d) => uptoBulk d + 1
 end
def uptoSmall : (H : Type) → List (DataW H) → Bool := fun _ ds => decide (uptoBulkAll ds ≤ 1048576)
def OpenSpec.upto (s : _root_.Go.ChangeSpec) : _root_.Go.OpenSpec := { _root_.Go.OpenSpec.ofChange s with cond := some uptoSmall }

/-- 'deaddroplaw6.BoxAll', WHERE WHAT IT READS IS OF BULK AT MOST 1048576: true; the input reads as it did. -/
def boxAllUptoRow : OpenClaim := { program := "ytcajgckomhhglaa", sum := "e1d87e3e3ee6432f1da12ec9f492a3448c2c3b8bc67928c386a9282401cfef0d", func := "deaddrop/deaddroplaw6.BoxAll", spec := "boxAll", inPlace := ["internal/reflectlite.TypeOf", "internal/abi.NoEscape", "internal/bytealg.MakeNoZero"], unfollowed := true, recurses := true, apart := false, narrowed := true }
def BoxAllUptoSaid : Prop := boxAllUptoRow.holds Try.pinned (OpenSpec.upto boxAllSpec)

/-- 'deaddroplaw6.BoxBack', WHERE WHAT IT READS IS OF BULK AT MOST 1048576: true; the input reads as it did. -/
def boxBackUptoRow : OpenClaim := { program := "ytcajgckomhhglaa", sum := "e1d87e3e3ee6432f1da12ec9f492a3448c2c3b8bc67928c386a9282401cfef0d", func := "deaddrop/deaddroplaw6.BoxBack", spec := "boxBack", inPlace := ["internal/reflectlite.TypeOf", "internal/abi.NoEscape", "internal/bytealg.MakeNoZero"], unfollowed := true, recurses := true, apart := false, narrowed := true }
def BoxBackUptoSaid : Prop := boxBackUptoRow.holds Try.pinned (OpenSpec.upto boxBackSpec)

/-- 'deaddroplaw6.BoxSides', WHERE WHAT IT READS IS OF BULK AT MOST 1048576: true; the input reads as it did. -/
def boxSidesUptoRow : OpenClaim := { program := "ytcajgckomhhglaa", sum := "e1d87e3e3ee6432f1da12ec9f492a3448c2c3b8bc67928c386a9282401cfef0d", func := "deaddrop/deaddroplaw6.BoxSides", spec := "boxSides", inPlace := ["internal/reflectlite.TypeOf", "internal/abi.NoEscape", "internal/bytealg.MakeNoZero"], unfollowed := true, recurses := true, apart := false, narrowed := true }
def BoxSidesUptoSaid : Prop := boxSidesUptoRow.holds Try.pinned (OpenSpec.upto boxSidesSpec)

/-- 'deaddroplaw6.BoxSizes', WHERE WHAT IT READS IS OF BULK AT MOST 1048576: true; the input reads as it did. -/
def boxSizesUptoRow : OpenClaim := { program := "ytcajgckomhhglaa", sum := "e1d87e3e3ee6432f1da12ec9f492a3448c2c3b8bc67928c386a9282401cfef0d", func := "deaddrop/deaddroplaw6.BoxSizes", spec := "boxSizes", inPlace := ["internal/reflectlite.TypeOf", "internal/abi.NoEscape", "internal/bytealg.MakeNoZero"], unfollowed := true, recurses := true, apart := false, narrowed := true }
def BoxSizesUptoSaid : Prop := boxSizesUptoRow.holds Try.pinned (OpenSpec.upto boxSizesSpec)

/-- 'deaddroplaw6.BoxStream', WHERE WHAT IT READS IS OF BULK AT MOST 1048576: true; the input reads as it did. -/
def boxStreamUptoRow : OpenClaim := { program := "ytcajgckomhhglaa", sum := "e1d87e3e3ee6432f1da12ec9f492a3448c2c3b8bc67928c386a9282401cfef0d", func := "deaddrop/deaddroplaw6.BoxStream", spec := "boxStream", inPlace := ["internal/reflectlite.TypeOf", "internal/abi.NoEscape", "internal/bytealg.MakeNoZero"], unfollowed := true, recurses := true, apart := false, narrowed := true }
def BoxStreamUptoSaid : Prop := boxStreamUptoRow.holds Try.pinned (OpenSpec.upto boxStreamSpec)

/-- 'deaddroplaw6.BoxShort', WHERE WHAT IT READS IS OF BULK AT MOST 1048576: true; the input reads as it did. -/
def boxShortUptoRow : OpenClaim := { program := "ytcajgckomhhglaa", sum := "e1d87e3e3ee6432f1da12ec9f492a3448c2c3b8bc67928c386a9282401cfef0d", func := "deaddrop/deaddroplaw6.BoxShort", spec := "boxShort", inPlace := ["internal/abi.NoEscape", "internal/bytealg.MakeNoZero", "internal/reflectlite.TypeOf"], unfollowed := true, recurses := true, apart := false, narrowed := true }
def BoxShortUptoSaid : Prop := boxShortUptoRow.holds Try.pinned (OpenSpec.upto boxShortSpec)

end Rows
end Go.Proofs.Ytcajgckomhhglaa
