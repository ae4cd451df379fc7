/-
  No cell of these rows narrows 'for every input' (looked for: loops, veiled, ifaces, maps, wideKeys, modest, calm, conditions, laid).
  DERIVED. THE GIVEN ROWS OF THIS SEAT. 3 by the template 'for every input the law returns true; each argument reads behind the call as it read before'; 0 by the template 'total and deterministic' (their statements: YtbpponebopnfaaaTotals.lean).
  GIVEN WITH THE SEED: the statements are not yours to turn. If you find one false, say at which input.
  Laid BY PROGRAM, IN A SANDBOX (cutbox-rows.mjs): the forced cells as the released guide's own fill.sh prints them over the translation b60f4d7052268d1c… (all of the seat's roots in one cut). By AI agents, Wed Nov 11 2026. No macro, syntax, notation, axiom, sorry.
-/
import Derived.Test.YtbpponebopnfaaaChecked
import GoSem.Claim
import GoSem.ClaimJoined
import GoSem.ClaimMapViews
import Derived.JoinedTies
import Derived.KernelRfl
namespace Go.Proofs.Ytbpponebopnfaaa
/- THE CELL 'sum', in the pinned program and in every row, IS THE sha256 OF THE DUMP (.gsa) THAT YtbpponebopnfaaaProg.lean LOADS. Nothing in Lean hashes anything: it is a label: what it is worth is what the hold of that sum in a sandbox is worth. -/
noncomputable def Try.pinned : Pinned := { name := "ytbpponebopnfaaa", sum := "b60f4d7052268d1c12353abf427edd6555cc0f6dcf17e74ddc5ca77440dbfcbf", checked := Try.checked }
namespace Rows
def none {H : Type} : Left H := { results := [], args := [] }

/-- 'deaddroplaw20.MailAll': WHATEVER THE INPUT: true; the input reads as it did. -/
def mailAllSpec : ChangeSpec := { name := "mailAll", fn := fun _ => fun
  | [d1, d2, d3] => { results := [.lit (.bool true)], args := [d1, d2, d3] }
  | _ => none }
def mailAllRow : OpenClaim := { program := "ytbpponebopnfaaa", sum := "b60f4d7052268d1c12353abf427edd6555cc0f6dcf17e74ddc5ca77440dbfcbf", func := "deaddrop/deaddroplaw20.MailAll", spec := "mailAll", apart := false }
def MailAllSaid : Prop := mailAllRow.holds Try.pinned (OpenSpec.ofChange mailAllSpec)

/-- ITS FALSE NEIGHBOUR: 'it returns false'. Refute it at one input. -/
def mailAllWrong : ChangeSpec := { name := "mailAll", fn := fun _ => fun
  | [d1, d2, d3] => { results := [.lit (.bool false)], args := [d1, d2, d3] }
  | _ => none }
def MailAllWrongFalsely : Prop := mailAllRow.holds Try.pinned (OpenSpec.ofChange mailAllWrong)

/-- 'deaddroplaw20.MailRuns': WHATEVER THE INPUT: true; the input reads as it did. -/
def mailRunsSpec : ChangeSpec := { name := "mailRuns", fn := fun _ => fun
  | [d] => { results := [.lit (.bool true)], args := [d] }
  | _ => none }
def mailRunsRow : OpenClaim := { program := "ytbpponebopnfaaa", sum := "b60f4d7052268d1c12353abf427edd6555cc0f6dcf17e74ddc5ca77440dbfcbf", func := "deaddrop/deaddroplaw20.MailRuns", spec := "mailRuns", apart := false }
def MailRunsSaid : Prop := mailRunsRow.holds Try.pinned (OpenSpec.ofChange mailRunsSpec)

/-- ITS FALSE NEIGHBOUR: 'it returns false'. Refute it at one input. -/
def mailRunsWrong : ChangeSpec := { name := "mailRuns", fn := fun _ => fun
  | [d] => { results := [.lit (.bool false)], args := [d] }
  | _ => none }
def MailRunsWrongFalsely : Prop := mailRunsRow.holds Try.pinned (OpenSpec.ofChange mailRunsWrong)

/-- 'deaddroplaw20.MailPlaces': WHATEVER THE INPUT: true; the input reads as it did. -/
def mailPlacesSpec : ChangeSpec := { name := "mailPlaces", fn := fun _ => fun
  | [d1, d2] => { results := [.lit (.bool true)], args := [d1, d2] }
  | _ => none }
def mailPlacesRow : OpenClaim := { program := "ytbpponebopnfaaa", sum := "b60f4d7052268d1c12353abf427edd6555cc0f6dcf17e74ddc5ca77440dbfcbf", func := "deaddrop/deaddroplaw20.MailPlaces", spec := "mailPlaces", apart := false }
def MailPlacesSaid : Prop := mailPlacesRow.holds Try.pinned (OpenSpec.ofChange mailPlacesSpec)

/-- ITS FALSE NEIGHBOUR: 'it returns false'. Refute it at one input. -/
def mailPlacesWrong : ChangeSpec := { name := "mailPlaces", fn := fun _ => fun
  | [d1, d2] => { results := [.lit (.bool false)], args := [d1, d2] }
  | _ => none }
def MailPlacesWrongFalsely : Prop := mailPlacesRow.holds Try.pinned (OpenSpec.ofChange mailPlacesWrong)

/- THE SECOND FORM. 'bulk': how many values and letters a reading holds, each counted each time it is reached (what is shared counts as often as it is met; a slice's spare places count too). A statement '..UptoSaid' is the law's where the arguments, and the package variables that the reading takes, are together of bulk at most 1048576: NARROWER than '..Said'. Prove '..Said' where nothing that the law and all that it calls make is longer than what came in: it says more and counts as full. Else prove '..UptoSaid'. A law counts once. -/
mutual
def uptoBulk {H : Type} : DataW H → Nat
  | .lit (.string bytes) => bytes.length + 1
  | .lit _ => 1
  | .nil => 1
  | .ptr d => uptoBulk d + 1
  | .slice elems spare => uptoBulkAll elems + uptoBulkAll spare + 1
  | .agg parts => uptoBulkAll parts + 1
  | .iface _ d => uptoBulk d + 1
  | .map entries => uptoBulkEntries entries + 1
  | .held _ => 1
def uptoBulkAll {H : Type} : List (DataW H) → Nat
  | [] => 0
  | d :: r => uptoBulk d + uptoBulkAll r
def uptoBulkEntries {H : Type} : List (Lit × DataW H) → Nat
  | [] => 0
  | x :: r => uptoBulkEntry x + uptoBulkEntries r
def uptoBulkEntry {H : Type} : Lit × DataW H → Nat
  | (.string bytes, d) => bytes.length + uptoBulk d + 1
  | (_, d) => uptoBulk d + 1
 end
def uptoSmall : (H : Type) → List (DataW H) → Bool := fun _ ds => decide (uptoBulkAll ds ≤ 1048576)
def OpenSpec.upto (s : _root_.Go.ChangeSpec) : _root_.Go.OpenSpec := { _root_.Go.OpenSpec.ofChange s with cond := some uptoSmall }

/-- 'deaddroplaw20.MailAll', WHERE WHAT IT READS IS OF BULK AT MOST 1048576: true; the input reads as it did. -/
def mailAllUptoRow : OpenClaim := { program := "ytbpponebopnfaaa", sum := "b60f4d7052268d1c12353abf427edd6555cc0f6dcf17e74ddc5ca77440dbfcbf", func := "deaddrop/deaddroplaw20.MailAll", spec := "mailAll", apart := false, narrowed := true }
def MailAllUptoSaid : Prop := mailAllUptoRow.holds Try.pinned (OpenSpec.upto mailAllSpec)

/-- 'deaddroplaw20.MailRuns', WHERE WHAT IT READS IS OF BULK AT MOST 1048576: true; the input reads as it did. -/
def mailRunsUptoRow : OpenClaim := { program := "ytbpponebopnfaaa", sum := "b60f4d7052268d1c12353abf427edd6555cc0f6dcf17e74ddc5ca77440dbfcbf", func := "deaddrop/deaddroplaw20.MailRuns", spec := "mailRuns", apart := false, narrowed := true }
def MailRunsUptoSaid : Prop := mailRunsUptoRow.holds Try.pinned (OpenSpec.upto mailRunsSpec)

/-- 'deaddroplaw20.MailPlaces', WHERE WHAT IT READS IS OF BULK AT MOST 1048576: true; the input reads as it did. -/
def mailPlacesUptoRow : OpenClaim := { program := "ytbpponebopnfaaa", sum := "b60f4d7052268d1c12353abf427edd6555cc0f6dcf17e74ddc5ca77440dbfcbf", func := "deaddrop/deaddroplaw20.MailPlaces", spec := "mailPlaces", apart := false, narrowed := true }
def MailPlacesUptoSaid : Prop := mailPlacesUptoRow.holds Try.pinned (OpenSpec.upto mailPlacesSpec)

end Rows
end Go.Proofs.Ytbpponebopnfaaa
