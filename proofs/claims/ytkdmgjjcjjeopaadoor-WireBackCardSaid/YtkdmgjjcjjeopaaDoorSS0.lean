/- Contracts of this program's functions. -/
import Derived.Test.YtkdmgjjcjjeopaaDoorSC0
set_option maxHeartbeats 4000000
set_option maxRecDepth 100000
set_option linter.unusedVariables false
set_option linter.unusedSimpArgs false
namespace Go.Proofs.Tryd
open Go Go.Ot

mutual
def sameW : Wr → Wr → Bool
  | .mk k n s l, .mk k' n' s' l' => decide (k = k') && decide (n = n') && (s == s') && sameL l l'
def sameL : List Wr → List Wr → Bool
  | [], [] => true
  | a :: l, b :: l' => sameW a b && sameL l l'
  | [], _ :: _ => false
  | _ :: _, [] => false
end
mutual
theorem sameW_iff : ∀ a b, sameW a b = true ↔ a = b
  | .mk k n s l, .mk k' n' s' l' => by
    simp only [sameW, Bool.and_eq_true, decide_eq_true_eq, beq_iff_eq, sameL_iff l l', Wr.mk.injEq, and_assoc]
theorem sameL_iff : ∀ a b, sameL a b = true ↔ a = b
  | [], [] => by simp [sameL]
  | a :: l, b :: l' => by simp only [sameL, Bool.and_eq_true, sameW_iff a b, sameL_iff l l', List.cons.injEq]
  | [], _ :: _ => by simp [sameL]
  | _ :: _, [] => by simp [sameL]
end
theorem sameW_self (a : Wr) : sameW a a = true := (sameW_iff a a).2 rfl
theorem sameW_comm_false {a b : Wr} (h : a ≠ b) : sameW a b = false := by
  cases e : sameW a b with
  | false => rfl
  | true => exact absurd ((sameW_iff a b).1 e) h
theorem sameL_bad {a b : List Wr} {i : Nat} (h : sameW (a.getD i default) (b.getD i default) = false) : sameL a b = false := by
  cases e : sameL a b with
  | false => rfl
  | true => rw [(sameL_iff a b).1 e, sameW_self] at h; cases h
theorem sameL_len {a b : List Wr} (h : a.length ≠ b.length) : sameL a b = false := by
  cases e : sameL a b with
  | false => rfl
  | true => rw [(sameL_iff a b).1 e] at h; exact absurd rfl h
theorem sameL_done {a b : List Wr} {i : Nat} (h : a.take i = b.take i) (hi : a.length ≤ i) (hl : a.length = b.length) : sameL a b = true := by
  rw [List.take_of_length_le hi, List.take_of_length_le (by omega)] at h
  exact (sameL_iff a b).2 h
theorem sameL_next {a b : List Wr} {i : Nat} (h : a.take i = b.take i) (hi : i < a.length) (hl : a.length = b.length) (he : sameW (a.getD i default) (b.getD i default) = true) : a.take (i + 1) = b.take (i + 1) := by
  have hb : i < b.length := by omega
  have he := (sameW_iff _ _).1 he
  simp only [List.getD_eq_getElem?_getD, List.getElem?_eq_getElem hi, List.getElem?_eq_getElem hb, Option.getD_some] at he
  rw [List.take_add_one, List.take_add_one, h, List.getElem?_eq_getElem hi, List.getElem?_eq_getElem hb, he]
theorem sameW_eq (a b : Wr) : sameW a b = (decide (a.k = b.k) && decide (a.n = b.n) && (a.s == b.s) && sameL a.l b.l) := by cases a; cases b; rfl

end Go.Proofs.Tryd
