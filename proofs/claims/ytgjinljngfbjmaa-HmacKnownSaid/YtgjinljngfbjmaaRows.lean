/-
  No cell of these rows narrows 'for every input' (looked for: loops, veiled, ifaces, maps, wideKeys, modest, calm, conditions, laid).
  DERIVED. THE GIVEN ROWS OF THIS SEAT. 6 by the template 'for every input the law returns true; each argument reads behind the call as it read before'; 0 by the template 'total and deterministic' (their statements: YtgjinljngfbjmaaTotals.lean).
  GIVEN WITH THE SEED: the statements are not yours to turn. If you find one false, say at which input.
  Laid BY PROGRAM, IN A SANDBOX (cutbox-rows.mjs): the forced cells as the released guide's own fill.sh prints them over the translation 11262253a8899522… (all of the seat's roots in one cut). By AI agents, Wed Nov 11 2026. No macro, syntax, notation, axiom, sorry.
-/
import Derived.Test.YtgjinljngfbjmaaChecked
import GoSem.Claim
import GoSem.ClaimJoined
import GoSem.ClaimMapViews
import Derived.JoinedTies
import Derived.KernelRfl
namespace Go.Proofs.Ytgjinljngfbjmaa
/- THE CELL 'sum', in the pinned program and in every row, IS THE sha256 OF THE DUMP (.gsa) THAT YtgjinljngfbjmaaProg.lean LOADS. Nothing in Lean hashes anything: it is a label: what it is worth is what the hold of that sum in a sandbox is worth. -/
noncomputable def Try.pinned : Pinned := { name := "ytgjinljngfbjmaa", sum := "11262253a8899522e0fd9298e066aa39510b926b189f1c02adbc96d493fe3747", checked := Try.checked }
namespace Rows
def none {H : Type} : Left H := { results := [], args := [] }

/-- 'deaddroplaw3.HmacAll': WHATEVER THE INPUT: true; the input reads as it did. -/
def hmacAllSpec : ChangeSpec := { name := "hmacAll", fn := fun _ => fun
  | [d1, d2, d3] => { results := [.lit (.bool true)], args := [d1, d2, d3] }
  | _ => none }
def hmacAllRow : OpenClaim := { program := "ytgjinljngfbjmaa", sum := "11262253a8899522e0fd9298e066aa39510b926b189f1c02adbc96d493fe3747", func := "deaddrop/deaddroplaw3.HmacAll", spec := "hmacAll", inPlace := ["internal/abi.NoEscape", "internal/bytealg.MakeNoZero"], apart := false }
def HmacAllSaid : Prop := hmacAllRow.holds Try.pinned (OpenSpec.ofChange hmacAllSpec)

/-- ITS FALSE NEIGHBOUR: 'it returns false'. Refute it at one input. -/
def hmacAllWrong : ChangeSpec := { name := "hmacAll", fn := fun _ => fun
  | [d1, d2, d3] => { results := [.lit (.bool false)], args := [d1, d2, d3] }
  | _ => none }
def HmacAllWrongFalsely : Prop := hmacAllRow.holds Try.pinned (OpenSpec.ofChange hmacAllWrong)

/-- 'deaddroplaw3.HmacKeys': WHATEVER THE INPUT: true; the input reads as it did. -/
def hmacKeysSpec : ChangeSpec := { name := "hmacKeys", fn := fun _ => fun
  | [d1, d2, d3] => { results := [.lit (.bool true)], args := [d1, d2, d3] }
  | _ => none }
def hmacKeysRow : OpenClaim := { program := "ytgjinljngfbjmaa", sum := "11262253a8899522e0fd9298e066aa39510b926b189f1c02adbc96d493fe3747", func := "deaddrop/deaddroplaw3.HmacKeys", spec := "hmacKeys", inPlace := ["internal/abi.NoEscape", "internal/bytealg.MakeNoZero"], apart := false }
def HmacKeysSaid : Prop := hmacKeysRow.holds Try.pinned (OpenSpec.ofChange hmacKeysSpec)

/-- ITS FALSE NEIGHBOUR: 'it returns false'. Refute it at one input. -/
def hmacKeysWrong : ChangeSpec := { name := "hmacKeys", fn := fun _ => fun
  | [d1, d2, d3] => { results := [.lit (.bool false)], args := [d1, d2, d3] }
  | _ => none }
def HmacKeysWrongFalsely : Prop := hmacKeysRow.holds Try.pinned (OpenSpec.ofChange hmacKeysWrong)

/-- 'deaddroplaw3.HmacEqual': WHATEVER THE INPUT: true; the input reads as it did. -/
def hmacEqualSpec : ChangeSpec := { name := "hmacEqual", fn := fun _ => fun
  | [d1, d2, d3, d4] => { results := [.lit (.bool true)], args := [d1, d2, d3, d4] }
  | _ => none }
def hmacEqualRow : OpenClaim := { program := "ytgjinljngfbjmaa", sum := "11262253a8899522e0fd9298e066aa39510b926b189f1c02adbc96d493fe3747", func := "deaddrop/deaddroplaw3.HmacEqual", spec := "hmacEqual", inPlace := ["internal/abi.NoEscape", "internal/bytealg.MakeNoZero"], apart := false }
def HmacEqualSaid : Prop := hmacEqualRow.holds Try.pinned (OpenSpec.ofChange hmacEqualSpec)

/-- ITS FALSE NEIGHBOUR: 'it returns false'. Refute it at one input. -/
def hmacEqualWrong : ChangeSpec := { name := "hmacEqual", fn := fun _ => fun
  | [d1, d2, d3, d4] => { results := [.lit (.bool false)], args := [d1, d2, d3, d4] }
  | _ => none }
def HmacEqualWrongFalsely : Prop := hmacEqualRow.holds Try.pinned (OpenSpec.ofChange hmacEqualWrong)

/-- 'deaddroplaw3.HmacDerive': WHATEVER THE INPUT: true; the input reads as it did. -/
def hmacDeriveSpec : ChangeSpec := { name := "hmacDerive", fn := fun _ => fun
  | [d1, d2, d3, d4] => { results := [.lit (.bool true)], args := [d1, d2, d3, d4] }
  | _ => none }
def hmacDeriveRow : OpenClaim := { program := "ytgjinljngfbjmaa", sum := "11262253a8899522e0fd9298e066aa39510b926b189f1c02adbc96d493fe3747", func := "deaddrop/deaddroplaw3.HmacDerive", spec := "hmacDerive", inPlace := ["internal/abi.NoEscape", "internal/bytealg.MakeNoZero", "internal/reflectlite.TypeOf"], unfollowed := true, recurses := true, apart := false }
def HmacDeriveSaid : Prop := hmacDeriveRow.holds Try.pinned (OpenSpec.ofChange hmacDeriveSpec)

/-- ITS FALSE NEIGHBOUR: 'it returns false'. Refute it at one input. -/
def hmacDeriveWrong : ChangeSpec := { name := "hmacDerive", fn := fun _ => fun
  | [d1, d2, d3, d4] => { results := [.lit (.bool false)], args := [d1, d2, d3, d4] }
  | _ => none }
def HmacDeriveWrongFalsely : Prop := hmacDeriveRow.holds Try.pinned (OpenSpec.ofChange hmacDeriveWrong)

/-- 'deaddroplaw3.HmacLess': WHATEVER THE INPUT: true; the input reads as it did. -/
def hmacLessSpec : ChangeSpec := { name := "hmacLess", fn := fun _ => fun
  | [d1, d2, d3, d4, d5] => { results := [.lit (.bool true)], args := [d1, d2, d3, d4, d5] }
  | _ => none }
def hmacLessRow : OpenClaim := { program := "ytgjinljngfbjmaa", sum := "11262253a8899522e0fd9298e066aa39510b926b189f1c02adbc96d493fe3747", func := "deaddrop/deaddroplaw3.HmacLess", spec := "hmacLess", inPlace := ["internal/abi.NoEscape", "internal/bytealg.MakeNoZero", "internal/reflectlite.TypeOf"], unfollowed := true, recurses := true, apart := false }
def HmacLessSaid : Prop := hmacLessRow.holds Try.pinned (OpenSpec.ofChange hmacLessSpec)

/-- ITS FALSE NEIGHBOUR: 'it returns false'. Refute it at one input. -/
def hmacLessWrong : ChangeSpec := { name := "hmacLess", fn := fun _ => fun
  | [d1, d2, d3, d4, d5] => { results := [.lit (.bool false)], args := [d1, d2, d3, d4, d5] }
  | _ => none }
def HmacLessWrongFalsely : Prop := hmacLessRow.holds Try.pinned (OpenSpec.ofChange hmacLessWrong)

/-- 'deaddroplaw3.HmacKnown': WHATEVER THE INPUT: true; the input reads as it did. -/
def hmacKnownSpec : ChangeSpec := { name := "hmacKnown", fn := fun _ => fun
  | [d] => { results := [.lit (.bool true)], args := [d] }
  | _ => none }
def hmacKnownRow : OpenClaim := { program := "ytgjinljngfbjmaa", sum := "11262253a8899522e0fd9298e066aa39510b926b189f1c02adbc96d493fe3747", func := "deaddrop/deaddroplaw3.HmacKnown", spec := "hmacKnown", inPlace := ["internal/abi.NoEscape", "internal/bytealg.MakeNoZero", "internal/reflectlite.TypeOf"], unfollowed := true, recurses := true, apart := false }
def HmacKnownSaid : Prop := hmacKnownRow.holds Try.pinned (OpenSpec.ofChange hmacKnownSpec)

/-- ITS FALSE NEIGHBOUR: 'it returns false'. Refute it at one input. -/
def hmacKnownWrong : ChangeSpec := { name := "hmacKnown", fn := fun _ => fun
  | [d] => { results := [.lit (.bool false)], args := [d] }
  | _ => none }
def HmacKnownWrongFalsely : Prop := hmacKnownRow.holds Try.pinned (OpenSpec.ofChange hmacKnownWrong)

/- THE SECOND FORM. 'bulk': how many values and letters a reading holds, each counted each time it is reached (what is shared counts as often as it is met; a slice's spare places count too). A statement '..UptoSaid' is the law's where the arguments, and the package variables that the reading takes, are together of bulk at most 1048576: NARROWER than '..Said'. Prove '..Said' where nothing that the law and all that it calls make is longer than what came in: it says more and counts as full. Else prove '..UptoSaid'. A law counts once. -/
mutual
def uptoBulk {H : Type} : DataW H → Nat
  | .lit (.string bytes) => bytes.length + 1
  | .lit _ => 1
  | .nil => 1
  | .ptr d => uptoBulk d + 1
  | .slice elems spare => uptoBulkAll elems + uptoBulkAll spare + 1
  | .agg parts => uptoBulkAll parts + 1
  | .iface _ d => uptoBulk d + 1
  | .map entries => uptoBulkEntries entries + 1
  | .held _ => 1
def uptoBulkAll {H : Type} : List (DataW H) → Nat
  | [] => 0
  | d :: r => uptoBulk d + uptoBulkAll r
def uptoBulkEntries {H : Type} : List (Lit × DataW H) → Nat
  | [] => 0
  | x :: r => uptoBulkEntry x + uptoBulkEntries r
def uptoBulkEntry {H : Type} : Lit × DataW H → Nat
  | (.string bytes, d) => bytes.length + uptoBulk d + 1
  | (_, d) => uptoBulk d + 1
 end
def uptoSmall : (H : Type) → List (DataW H) → Bool := fun _ ds => decide (uptoBulkAll ds ≤ 1048576)
def OpenSpec.upto (s : _root_.Go.ChangeSpec) : _root_.Go.OpenSpec := { _root_.Go.OpenSpec.ofChange s with cond := some uptoSmall }

/-- 'deaddroplaw3.HmacAll', WHERE WHAT IT READS IS OF BULK AT MOST 1048576: true; the input reads as it did. -/
def hmacAllUptoRow : OpenClaim := { program := "ytgjinljngfbjmaa", sum := "11262253a8899522e0fd9298e066aa39510b926b189f1c02adbc96d493fe3747", func := "deaddrop/deaddroplaw3.HmacAll", spec := "hmacAll", inPlace := ["internal/abi.NoEscape", "internal/bytealg.MakeNoZero"], apart := false, narrowed := true }
def HmacAllUptoSaid : Prop := hmacAllUptoRow.holds Try.pinned (OpenSpec.upto hmacAllSpec)

/-- 'deaddroplaw3.HmacKeys', WHERE WHAT IT READS IS OF BULK AT MOST 1048576: true; the input reads as it did. -/
def hmacKeysUptoRow : OpenClaim := { program := "ytgjinljngfbjmaa", sum := "11262253a8899522e0fd9298e066aa39510b926b189f1c02adbc96d493fe3747", func := "deaddrop/deaddroplaw3.HmacKeys", spec := "hmacKeys", inPlace := ["internal/abi.NoEscape", "internal/bytealg.MakeNoZero"], apart := false, narrowed := true }
def HmacKeysUptoSaid : Prop := hmacKeysUptoRow.holds Try.pinned (OpenSpec.upto hmacKeysSpec)

/-- 'deaddroplaw3.HmacEqual', WHERE WHAT IT READS IS OF BULK AT MOST 1048576: true; the input reads as it did. -/
def hmacEqualUptoRow : OpenClaim := { program := "ytgjinljngfbjmaa", sum := "11262253a8899522e0fd9298e066aa39510b926b189f1c02adbc96d493fe3747", func := "deaddrop/deaddroplaw3.HmacEqual", spec := "hmacEqual", inPlace := ["internal/abi.NoEscape", "internal/bytealg.MakeNoZero"], apart := false, narrowed := true }
def HmacEqualUptoSaid : Prop := hmacEqualUptoRow.holds Try.pinned (OpenSpec.upto hmacEqualSpec)

/-- 'deaddroplaw3.HmacDerive', WHERE WHAT IT READS IS OF BULK AT MOST 1048576: true; the input reads as it did. -/
def hmacDeriveUptoRow : OpenClaim := { program := "ytgjinljngfbjmaa", sum := "11262253a8899522e0fd9298e066aa39510b926b189f1c02adbc96d493fe3747", func := "deaddrop/deaddroplaw3.HmacDerive", spec := "hmacDerive", inPlace := ["internal/abi.NoEscape", "internal/bytealg.MakeNoZero", "internal/reflectlite.TypeOf"], unfollowed := true, recurses := true, apart := false, narrowed := true }
def HmacDeriveUptoSaid : Prop := hmacDeriveUptoRow.holds Try.pinned (OpenSpec.upto hmacDeriveSpec)

/-- 'deaddroplaw3.HmacLess', WHERE WHAT IT READS IS OF BULK AT MOST 1048576: true; the input reads as it did. -/
def hmacLessUptoRow : OpenClaim := { program := "ytgjinljngfbjmaa", sum := "11262253a8899522e0fd9298e066aa39510b926b189f1c02adbc96d493fe3747", func := "deaddrop/deaddroplaw3.HmacLess", spec := "hmacLess", inPlace := ["internal/abi.NoEscape", "internal/bytealg.MakeNoZero", "internal/reflectlite.TypeOf"], unfollowed := true, recurses := true, apart := false, narrowed := true }
def HmacLessUptoSaid : Prop := hmacLessUptoRow.holds Try.pinned (OpenSpec.upto hmacLessSpec)

/-- 'deaddroplaw3.HmacKnown', WHERE WHAT IT READS IS OF BULK AT MOST 1048576: true; the input reads as it did. -/
def hmacKnownUptoRow : OpenClaim := { program := "ytgjinljngfbjmaa", sum := "11262253a8899522e0fd9298e066aa39510b926b189f1c02adbc96d493fe3747", func := "deaddrop/deaddroplaw3.HmacKnown", spec := "hmacKnown", inPlace := ["internal/abi.NoEscape", "internal/bytealg.MakeNoZero", "internal/reflectlite.TypeOf"], unfollowed := true, recurses := true, apart := false, narrowed := true }
def HmacKnownUptoSaid : Prop := hmacKnownUptoRow.holds Try.pinned (OpenSpec.upto hmacKnownSpec)

end Rows
end Go.Proofs.Ytgjinljngfbjmaa
