/- Contracts of this program's functions. -/
import Derived.Test.YtkbikblijipceaaGreatDoorSM1
set_option maxHeartbeats 4000000
set_option maxRecDepth 100000
set_option linter.unusedVariables false
set_option linter.unusedSimpArgs false
namespace Go.Proofs.Tryz
open Go Go.Ot

def rowW (l : List Wr) : Ob := ⟨(Wr.cellsL l).map .t, 94, true, true⟩
@[push_cast] theorem rowW_eq (l : List Wr) : rowW l = ⟨(Wr.cellsL l).map .t, 94, true, true⟩ := rfl
@[push_cast] theorem cells_at3 {l : List Wr} {i : Nat} (h : i < l.length) : (((Wr.cellsL l).map D.t).drop (i * 4)).take 4 = wC (l.getD i default) := by
 rw [← List.map_drop]; exact cells_at h
theorem cellsL_cons' (k n : Int) (s : List UInt8) (c l : List Wr) : Wr.cellsL (.mk k n s c :: l) = num k :: num n :: txt s :: .sl c.length (Wr.cellsL c) :: Wr.cellsL l := rfl
theorem setAt_same : ∀ (ds cs : List D) (i : Nat), (cs.drop i).take ds.length = ds → setAt cs i ds = cs
 | [], cs, i, _ => rfl
 | d :: ds, cs, i, h => by
  have hi : i < cs.length := by
   rcases Nat.lt_or_ge i cs.length with h1 | h1
   ·exact h1
   ·rw [List.drop_eq_nil_of_le h1] at h; simp at h
  rw [List.drop_eq_getElem_cons hi, List.length_cons, List.take_succ_cons] at h
  obtain ⟨h1, h2⟩ := List.cons.inj h
  rw [setAt, ← h1, List.set_getElem_self]
  exact setAt_same ds cs (i + 1) h2
@[push_cast] theorem set4_cells {l : List Wr} {i : Nat} : (((((Wr.cellsL l).map D.t).set (i * 4) (D.t (.v (.int .i64 (l.getD i default).k)))).set (i * 4 + 1) (D.t (.v (.int .i64 (l.getD i default).n)))).set (i * 4 + 1 + 1) (D.t (.v (.string (S (l.getD i default).s))))).set (i * 4 + 1 + 1 + 1) (D.t (.sl (l.getD i default).l.length (Wr.cellsL (l.getD i default).l))) = (Wr.cellsL l).map D.t := by
 rcases Nat.lt_or_ge i l.length with h | h
 ·exact setAt_same [D.t (num (l.getD i default).k), D.t (num (l.getD i default).n), D.t (txt (l.getD i default).s), D.t (.sl (l.getD i default).l.length (Wr.cellsL (l.getD i default).l))] _ _ (cells_at3 h)
 ·have hl : ((Wr.cellsL l).map D.t).length ≤ i * 4 := by rw [List.length_map, Wr.cellsL_len]; omega
  rw [List.set_eq_of_length_le hl, List.set_eq_of_length_le (i := i * 4 + 1) (by omega), List.set_eq_of_length_le (i := i * 4 + 1 + 1) (by omega), List.set_eq_of_length_le (i := i * 4 + 1 + 1 + 1) (by omega)]
theorem cells_next {l : List Wr} {i : Nat} (h : i < l.length) : (Wr.cellsL (l.take (i + 1))).map D.t = (Wr.cellsL (l.take i)).map D.t ++ [D.t (num (l.getD i default).k), D.t (num (l.getD i default).n), D.t (txt (l.getD i default).s), D.t (.sl (l.getD i default).l.length (Wr.cellsL (l.getD i default).l))] := by
 rw [List.take_add_one, List.getElem?_eq_getElem h]
 have : l.getD i default = l[i] := by simp [List.getD_eq_getElem?_getD, List.getElem?_eq_getElem h]
 rw [this]
 exact cells_app _ _
theorem sz_len : ∀ (l : List Wr), l.length ≤ Wr.szL l
 | [] => Nat.le_refl _
 | w :: l => by have := sz_len l; have := w.sz_pos; simp [Wr.szL]; omega
theorem sz_l (k n : Int) (s : List UInt8) (l : List Wr) : l.length < (Wr.mk k n s l).sz := by have := sz_len l; simp [Wr.sz]; omega

end Go.Proofs.Tryz
