/- Contracts of this program's functions. -/
import Derived.Test.YtemehffhagfpbaaGreatDoorSMG1
set_option maxHeartbeats 4000000
set_option maxRecDepth 100000
set_option linter.unusedVariables false
set_option linter.unusedSimpArgs false
namespace Go.Proofs.Tryz
open Go Go.Ot

@[simp] theorem hasL_takeT (m : Nm) (cs : List T) (k : Nat) : D.hasL m (List.take k (cs.map D.t)) = false := by rw [← List.map_take]; exact hasL_map_t m _
@[simp] theorem hasL_takeD (m : Nm) (cs : List T) (k j : Nat) : D.hasL m (List.take k (List.drop j (cs.map D.t))) = false := by rw [← List.map_drop, ← List.map_take]; exact hasL_map_t m _
theorem rcs_split {l : List Rc} {i : Nat} {r r' : Rc} (h : i < l.length) (he : l.getD i default = r) : l.flatMap rcT = (l.take i).flatMap rcT ++ (rcT r ++ (l.drop (i + 1)).flatMap rcT) ∧ (l.set i r').flatMap rcT = (l.take i).flatMap rcT ++ (rcT r' ++ (l.drop (i + 1)).flatMap rcT) := by
 have e : l[i] = r := by rw [← he]; simp [List.getD_eq_getElem?_getD, List.getElem?_eq_getElem h]
 constructor
 ·conv => lhs; rw [← List.take_append_drop i l, List.drop_eq_getElem_cons h, e]
  rw [List.flatMap_append, List.flatMap_cons]
 ·rw [List.set_eq_take_append_cons_drop, if_pos h, List.flatMap_append, List.flatMap_cons]
theorem rcs_tlen {l : List Rc} {i : Nat} (h : i < l.length) : ((l.take i).flatMap rcT).length = i * 6 := by rw [rcs_len, List.length_take, Nat.min_eq_left (by omega)]
theorem rcs_setD {l : List Rc} {i j : Nat} {r : Rc} {d : D} (h : i < l.length) (he : l.getD i default = r) (hj : j < 6) : ((l.flatMap rcT).map D.t).set (i * 6 + j) d = ((l.take i).flatMap rcT).map D.t ++ (((rcT r).map D.t).set j d ++ ((l.drop (i + 1)).flatMap rcT).map D.t) := by
 have ht := rcs_tlen h
 rw [(rcs_split (r' := r) h he).1, List.map_append, List.map_append, List.set_append_right _ _ (by rw [List.length_map]; omega), List.length_map, ht, Nat.add_sub_cancel_left, List.set_append_left _ _ (by rw [List.length_map, rcT_len]; exact hj)]
theorem rcs_set {l : List Rc} {i j : Nat} {r r' : Rc} {c : T} (h : i < l.length) (he : l.getD i default = r) (hj : j < 6) (hv : rcT r' = (rcT r).set j c) : ((l.flatMap rcT).map D.t).set (i * 6 + j) (.t c) = ((l.set i r').flatMap rcT).map D.t := by
 rw [rcs_setD h he hj, (rcs_split (r' := r') h he).2, List.map_append, List.map_append, hv, List.map_set]
theorem set_w {l : List Rc} {r' : Rc} (hw : ∀ j, (l.getD j default).wraps.length ≤ 9223372036854775807) (hr : r'.wraps.length ≤ 9223372036854775807) (i j : Nat) : ((l.set i r').getD j default).wraps.length ≤ 9223372036854775807 := by
 rw [List.getD_eq_getElem?_getD, List.getElem?_set]
 split
 ·split
  ·exact hr
  ·decide
 ·rw [← List.getD_eq_getElem?_getD]; exact hw j
theorem rcs_drop {l : List Rc} {i : Nat} (hi : i ≤ l.length) : (l.flatMap rcT).drop (i * 6) = (l.drop i).flatMap rcT := by
 have e : l.flatMap rcT = (l.take i).flatMap rcT ++ (l.drop i).flatMap rcT := by rw [← List.flatMap_append, List.take_append_drop]
 rw [e]
 exact List.drop_left' (by rw [rcs_len, List.length_take, Nat.min_eq_left hi])
theorem rcs_gone {l : List Rc} {i : Nat} (h : i < l.length) : List.take (i * 6) ((l.flatMap rcT).map D.t) ++ List.take ((l.length - (i + 1)) * 6) (List.drop ((i + 1) * 6) ((l.flatMap rcT).map D.t)) = ((l.take i ++ l.drop (i + 1)).flatMap rcT).map D.t := by
 have e : ((l.drop (i + 1)).flatMap rcT).take ((l.length - (i + 1)) * 6) = (l.drop (i + 1)).flatMap rcT := List.take_of_length_le (by rw [rcs_len, List.length_drop]; exact Nat.le_refl _)
 rw [← List.map_take, ← List.map_drop, ← List.map_take, rcs_take (by omega), rcs_drop (by omega), e, List.flatMap_append, List.map_append]

end Go.Proofs.Tryz
