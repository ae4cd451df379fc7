/- Contracts of this program's functions. -/
import Derived.Test.YtppicdhlpdhoiaaDoorSV0
import Derived.Test.YtppicdhlpdhoiaaDoorOtF
import Derived.Test.YtppicdhlpdhoiaaDoorOtE
set_option maxHeartbeats 4000000
set_option maxRecDepth 100000
set_option linter.unusedVariables false
set_option linter.unusedSimpArgs false
namespace Go.Proofs.Tryd
open Go Go.Ot

structure Rn where
 dev : Int
 fr : Int
 to : Int
 deriving DecidableEq
instance : Inhabited Rn := ⟨⟨0, 0, 0⟩⟩
structure Ft where
 dev : Int
 n : Int
 key : List UInt8
 kind : Int
 item : List UInt8
 m : Int
 deriving DecidableEq
instance : Inhabited Ft := ⟨⟨0, 0, [], 0, [], 0⟩⟩
def rnT (r : Rn) : List T := [num r.dev, num r.fr, num r.to]
def ftT (f : Ft) : List T := [num f.dev, num f.n, txt f.key, num f.kind, txt f.item, num f.m]
theorem rnT_len (r : Rn) : (rnT r).length = 3 := rfl
theorem ftT_len (f : Ft) : (ftT f).length = 6 := rfl
@[push_cast] theorem rns_len (l : List Rn) : (l.flatMap rnT).length = l.length * 3 := rows_len rnT_len l
@[push_cast] theorem fts_len (l : List Ft) : (l.flatMap ftT).length = l.length * 6 := rows_len ftT_len l
theorem rows_drop {α : Type} [Inhabited α] {f : α → List T} {k : Nat} (hf : ∀ a, (f a).length = k) {l : List α} {i : Nat} (h : i < l.length) : (l.flatMap f).drop (i * k) = f (l.getD i default) ++ (l.flatMap f).drop (i * k + k) := by
 rw [← rows_at hf h, ← List.drop_drop, List.take_append_drop]
@[push_cast] theorem rn_drop {l : List Rn} {i : Nat} (h : i < l.length) : (l.flatMap rnT).drop (i * 3) = num (l.getD i default).dev :: num (l.getD i default).fr :: num (l.getD i default).to :: (l.flatMap rnT).drop (i * 3 + 3) := rows_drop rnT_len h
@[push_cast] theorem ft_drop {l : List Ft} {i : Nat} (h : i < l.length) : (l.flatMap ftT).drop (i * 6) = num (l.getD i default).dev :: num (l.getD i default).n :: txt (l.getD i default).key :: num (l.getD i default).kind :: txt (l.getD i default).item :: num (l.getD i default).m :: (l.flatMap ftT).drop (i * 6 + 6) := rows_drop ftT_len h
/-- May a run be? -/
def rnP (r : Rn) : Prop := 0 ≤ r.dev ∧ r.dev < 8 ∧ 1 ≤ r.fr ∧ r.fr ≤ r.to ∧ r.to ≤ 4503599627370496
instance (r : Rn) : Decidable (rnP r) := by unfold rnP; infer_instance
def rnB (r : Rn) : Bool := decide (rnP r)
theorem rnB_t {r : Rn} (h : rnP r) : rnB r = true := decide_eq_true h
theorem rnB_f {r : Rn} (h : ¬ rnP r) : rnB r = false := decide_eq_false h
/-- May a run stand behind another? -/
def nextP (p r : Rn) : Prop := p.dev ≤ r.dev ∧ (r.dev = p.dev → p.to + 1 < r.fr)
def rnOk (l : List Rn) (i : Nat) : Prop := rnP (l.getD i default) ∧ (0 < i → nextP (l.getD (i - 1) default) (l.getD i default))
instance (l : List Rn) (i : Nat) : Decidable (rnOk l i) := by unfold rnOk nextP; infer_instance
def mrB (l : List Rn) : Bool := (List.range l.length).all fun i => decide (rnOk l i)
theorem mrB_yes {l : List Rn} (h : ∀ i, i < l.length → rnOk l i) : mrB l = true := by
 rw [mrB, List.all_eq_true]; intro i hi; exact decide_eq_true (h i (List.mem_range.1 hi))
theorem mrB_get {l : List Rn} (h : mrB l = true) {i : Nat} (hi : i < l.length) : rnOk l i := by
 rw [mrB, List.all_eq_true] at h; exact of_decide_eq_true (h i (List.mem_range.2 hi))
theorem mrB_no {l : List Rn} {i : Nat} (hi : i < l.length) (h : ¬ rnOk l i) : mrB l = false := by
 rcases e : mrB l with _ | _
 ·rfl
 ·exact absurd (mrB_get e hi) h
/-- Is a dot among runs? -/
def inRn (r : Rn) (d n : Int) : Bool := decide (r.dev = d ∧ r.fr ≤ n ∧ n ≤ r.to)
def hasB (l : List Rn) (d n : Int) : Bool := l.any fun r => inRn r d n
theorem hasB_yes {l : List Rn} {d n : Int} {i : Nat} (hi : i < l.length) (h : inRn (l.getD i default) d n = true) : hasB l d n = true := by
 rw [hasB, List.any_eq_true]
 have e : l.getD i default = l[i] := by simp [List.getD_eq_getElem?_getD, List.getElem?_eq_getElem hi]
 exact ⟨_, List.getElem_mem hi, by rw [← e]; exact h⟩
theorem hasB_no {l : List Rn} {d n : Int} (h : ∀ i, i < l.length → inRn (l.getD i default) d n = false) : hasB l d n = false := by
 rw [hasB, List.any_eq_false]
 intro r hr
 obtain ⟨i, hi, rfl⟩ := List.mem_iff_getElem.1 hr
 have e : l.getD i default = l[i] := by simp [List.getD_eq_getElem?_getD, List.getElem?_eq_getElem hi]
 rw [← e, h i hi]; decide

end Go.Proofs.Tryd
