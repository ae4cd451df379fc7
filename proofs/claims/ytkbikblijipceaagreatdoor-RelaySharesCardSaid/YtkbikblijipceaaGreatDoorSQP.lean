/- Contracts of this program's functions. -/
import Derived.Test.YtkbikblijipceaaGreatDoorSQ1
import Derived.Test.YtkbikblijipceaaGreatDoorOtE
set_option maxHeartbeats 4000000
set_option maxRecDepth 100000
set_option linter.unusedVariables false
set_option linter.unusedSimpArgs false
namespace Go.Proofs.Tryz
open Go Go.Ot

theorem part_no {W : Wr} {i : Nat} (h : W.l.length ≤ i) : part W i = Wr.z := by rw [part, List.getD_eq_getElem?_getD, List.getElem?_eq_none h]; rfl
theorem part_yes {W : Wr} {i : Nat} (h : i < W.l.length) : part W i = W.l.getD i default := by rw [part, List.getD_eq_getElem?_getD, List.getD_eq_getElem?_getD, List.getElem?_eq_getElem h]; rfl
theorem gotD_eq (o : Option Wr) : gotD o = .agg [.t (num (o.getD Wr.z).k), .t (num (o.getD Wr.z).n), .t (txt (o.getD Wr.z).s), .t (.sl (o.getD Wr.z).l.length (Wr.cellsL (o.getD Wr.z).l)), .t (bol o.isSome)] := by cases o <;> rfl
theorem part_texts' (s : List UInt8) (i : Nat) : tsz (wTs (part ((got s).getD Wr.z) i).l) ≤ s.length := by
 cases h : got s with
 | none => rw [Option.getD_none, part_no (by simp [Wr.z_eq, Wr.l_mk])]; simp [Wr.z_eq, Wr.l_mk, wTs, tsz]
 | some W => rw [Option.getD_some]; exact part_texts h i
theorem cls_s {l : List Wr} {i : Nat} (h : i < l.length) : (List.map D.t (List.drop 2 (List.drop (i * 4) (Wr.cellsL l)))).headD D.bad = D.t (txt (l.getD i default).s) := by
 induction l generalizing i with
 | nil => simp at h
 | cons w l ih =>
  cases i with
  | zero => rw [cellsL_consG]; rfl
  | succ i =>
   have := ih (i := i) (by simpa using h)
   rw [cellsL_consG, show (i + 1) * 4 = i * 4 + 4 from by omega]
   simpa using this
def refRp : Option Rp → D
 | some q => .agg [.t (num q.k), .t (num q.d), .t (num q.n), .t (lst txt q.l), .t (bol true)]
 | none => .agg [.t (num 0), .t (num 0), .t (num 0), .t (lst txt []), .t (bol false)]
theorem refRp_some (q : Rp) : refRp (some q) = .agg [.t (num q.k), .t (num q.d), .t (num q.n), .t (.sl q.l.length (q.l.map txt)), .t (bol true)] := rfl
end Go.Proofs.Tryz
