/- Contracts of this program's functions. -/
import Derived.Test.YtemehffhagfpbaaGreatDoorSME8
set_option maxHeartbeats 4000000
set_option maxRecDepth 100000
set_option linter.unusedVariables false
set_option linter.unusedSimpArgs false
namespace Go.Proofs.Tryz
open Go Go.Ot

/-- Is a device of the members, by the first records: the reference's In. -/
def inR (l : List Rc) (n d : Int) : Nat → Bool
 | 0 => false
 | j + 1 => if (l.getD j default).seq ≤ n ∧ (l.getD j default).dev = d ∧ ((l.getD j default).kind = 1 ∨ (l.getD j default).kind = 2) then decide ((l.getD j default).kind = 1) else inR l n d j
theorem inR_0 (l : List Rc) (n d : Int) : inR l n d 0 = false := rfl
theorem inR_y {l : List Rc} {n d : Int} {j : Nat} (h1 : (l.getD j default).seq ≤ n) (h2 : (l.getD j default).dev = d) (h3 : (l.getD j default).kind = 1) : inR l n d (j + 1) = true := by rw [inR, if_pos ⟨h1, h2, .inl h3⟩, decide_eq_true h3]
theorem inR_n {l : List Rc} {n d : Int} {j : Nat} (h1 : (l.getD j default).seq ≤ n) (h2 : (l.getD j default).dev = d) (h3 : (l.getD j default).kind ≠ 1) (h4 : (l.getD j default).kind = 2) : inR l n d (j + 1) = false := by rw [inR, if_pos ⟨h1, h2, .inr h4⟩, decide_eq_false h3]
theorem inR_s {l : List Rc} {n d : Int} {j : Nat} (h : ¬ ((l.getD j default).seq ≤ n ∧ (l.getD j default).dev = d ∧ ((l.getD j default).kind = 1 ∨ (l.getD j default).kind = 2))) : inR l n d (j + 1) = inR l n d j := by rw [inR, if_neg h]
def inB (l : List Rc) (n d : Int) : Bool := inR l n d l.length && (decide (0 ≤ d) && decide (d < 8))
theorem inR_eq {log : List Rc} {i : Nat} (hi : i ≤ log.length) (hok : ∀ j, j < i → chC log (inF log j) j = 0) (d : Int) : ∀ j, j ≤ i → inR (log.take i) i d j = (inF log j).contains d
 | 0, _ => rfl
 | j + 1, h => by
  have ih := inR_eq hi hok d j (by omega)
  have e : (log.take i).getD j default = log.getD j default := by simp [List.getD_eq_getElem?_getD, List.getElem?_take, show j < i from h]
  obtain ⟨hp, ⟨h1, _⟩, _⟩ := chC_ok (hok j (by omega))
  have hk := hp.2.2.2.1
  have hs : (log.getD j default).seq ≤ (i : Int) := by omega
  rw [inR, e, ih]
  by_cases hd : (log.getD j default).dev = d
  ·rw [if_pos ⟨hs, hd, hk⟩]
   by_cases hk1 : (log.getD j default).kind = 1
   ·rw [inF_add hk1, decide_eq_true hk1, hd]; simp
   ·rw [inF_del hk1, decide_eq_false hk1, hd]; symm; simp [fl]
  ·rw [if_neg (fun h => hd h.2.1)]
   by_cases hk1 : (log.getD j default).kind = 1
   ·rw [inF_add hk1]
    rcases e : (inF log j).contains d with _ | _
    ·symm; rw [Bool.eq_false_iff] at e ⊢; intro h; apply e; rw [List.contains_iff_mem] at h ⊢; rcases List.mem_append.1 h with h | h
     ·exact h
     ·exact absurd (List.mem_singleton.1 h).symm hd
    ·symm; rw [List.contains_iff_mem] at e ⊢; exact List.mem_append.2 (.inl e)
   ·rw [inF_del hk1]
    rcases e : (inF log j).contains d with _ | _
    ·symm; rw [Bool.eq_false_iff] at e ⊢; intro h; apply e; rw [List.contains_iff_mem] at h ⊢; exact (List.mem_filter.1 h).1
    ·symm; rw [List.contains_iff_mem] at e ⊢; exact List.mem_filter.2 ⟨e, decide_eq_true (fun h => hd h.symm)⟩
theorem inB_eq {log : List Rc} {i : Nat} (hi : i ≤ log.length) (hok : ∀ j, j < i → chC log (inF log j) j = 0) {d : Int} (h0 : 0 ≤ d ∧ d < 8) : inB (log.take i) i d = (inF log i).contains d := by
 rw [inB, List.length_take, Nat.min_eq_left hi, inR_eq hi hok d i (Nat.le_refl _), decide_eq_true h0.1, decide_eq_true h0.2, Bool.and_true, Bool.and_true]
theorem rcs_take {log : List Rc} {i : Nat} (hi : i ≤ log.length) : (log.flatMap rcT).take (i * 6) = (log.take i).flatMap rcT := by
 have e : log.flatMap rcT = (log.take i).flatMap rcT ++ (log.drop i).flatMap rcT := by rw [← List.flatMap_append, List.take_append_drop]
 rw [e]
 exact List.take_left' (by rw [rcs_len, List.length_take, Nat.min_eq_left hi])
theorem take_w {log : List Rc} (hw : ∀ j, (log.getD j default).wraps.length ≤ 9223372036854775807) (i j : Nat) : ((log.take i).getD j default).wraps.length ≤ 9223372036854775807 := by
 rw [List.getD_eq_getElem?_getD, List.getElem?_take]
 split
 ·exact hw j
 ·decide
theorem prevF_s {log : List Rc} {i : Nat} {r : Rc} (h : log.getD i default = r) : prevF log (i + 1) = hsh r := by rw [prevF, h]
theorem ck_no {log : List Rc} {i : Nat} {r : Rc} (hi : i < log.length) (he : log.getD i default = r) (h : ¬ rcP r ∨ ¬ (r.seq = i + 1 ∧ r.prev = prevF log i) ∨ (i = 0 ∧ (r.kind ≠ 1 ∨ r.dev ≠ 0)) ∨ (r.kind = 2 ∧ r.dev = 0) ∨ (inF log i).contains r.dev ≠ decide (r.kind = 2)) : ckB log = false := by
 refine ckB_no hi (fun hc => ?_)
 obtain ⟨h1, h2, h3⟩ := chC_ok hc
 rw [he] at h1 h2 h3
 rcases h with h | h | h | h | h
 ·exact h h1
 ·exact h h2
 ·exact h3 (.inl h)
 ·exact h3 (.inr (.inl h))
 ·exact h3 (.inr (.inr h))
theorem ck_nx {log : List Rc} {i : Nat} {r : Rc} (he : log.getD i default = r) (h1 : rcP r) (h2 : r.seq = i + 1) (h3 : r.prev = prevF log i) (h4 : ¬ ((i = 0 ∧ (r.kind ≠ 1 ∨ r.dev ≠ 0)) ∨ (r.kind = 2 ∧ r.dev = 0) ∨ (inF log i).contains r.dev ≠ decide (r.kind = 2))) : chC log (inF log i) i = 0 := chC_0 he h1 ⟨h2, h3⟩ h4

end Go.Proofs.Tryz
