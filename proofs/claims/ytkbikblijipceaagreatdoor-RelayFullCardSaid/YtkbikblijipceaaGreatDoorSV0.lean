/- Contracts of this program's functions. -/
import Derived.Test.YtkbikblijipceaaGreatDoorSU1
import Derived.Test.YtkbikblijipceaaGreatDoorSU2
import Derived.Test.YtkbikblijipceaaGreatDoorSC1
set_option maxHeartbeats 4000000
set_option maxRecDepth 100000
set_option linter.unusedVariables false
set_option linter.unusedSimpArgs false
namespace Go.Proofs.Tryz
open Go Go.Ot
attribute [push_cast] Option.getD_some Option.getD_none
theorem kV {w : Wr} (h : mayW 6 w = true) (hr : rangeW 6 w) : got (qB w) = some w := by rw [pS h]; exact yI7 h hr
theorem may_sz : ∀ (d : Nat) (w : Wr), mayW d w = true → w.sz ≤ (putW d w).length := by
 have key : ∀ (deep : Bool) (sub : Wr → Bool) (put : Wr → List UInt8), (∀ w, sub w = true → w.sz ≤ (put w).length) → ∀ w, tB deep sub w = true → w.sz ≤ (uW put w).length := by
  intro deep sub put h w hm
  cases w with
  | mk k n s l =>
   rcases jW hm with rfl | ⟨rfl, hs⟩ | ⟨rfl, hl, hml⟩
   ·rw [jX] at hm
    simp only [Bool.and_eq_true, decide_eq_true_eq] at hm
    have : l = [] := List.eq_nil_of_length_eq_zero hm.2
    subst this
    rw [uF]; simp [Wr.sz, Wr.szL]
   ·rw [sR] at hm
    simp only [Bool.and_eq_true, decide_eq_true_eq] at hm
    have : l = [] := List.eq_nil_of_length_eq_zero hm.1.2
    subst this
    rw [vZ]; simp [Wr.sz, Wr.szL]
   ·rw [bZ]
    have : ∀ l : List Wr, (∀ w ∈ l, sub w = true) → Wr.szL l ≤ (l.flatMap put).length := by
     intro l
     induction l with
     | nil => intro _; simp [Wr.szL]
     | cons a l ih =>
      intro hl
      have h1 := h a (hl a (by simp))
      have h2 := ih (fun w hw => hl w (by simp [hw]))
      simp only [Wr.szL, List.flatMap_cons, List.length_append]
      omega
    have := this l hml
    simp only [Wr.sz, List.length_cons, List.length_append, nb_len]
    omega
 intro d
 induction d with
 | zero => exact key false (fun _ => false) (fun _ => []) (fun w h => by cases h)
 | succ d ih => exact key true (mayW d) (putW d) ih
theorem yE1 {l : List Wr} {n : Nat} (h : l.length * 4 ≤ n) : ((Wr.cellsL l).map D.t).take n = (Wr.cellsL l).map D.t := List.take_of_length_le (by rw [List.length_map, Wr.cellsL_len]; exact h)
@[push_cast] theorem kE (w : Wr) (l : List Wr) : Wr.cellsL (w :: l) = num w.k :: num w.n :: txt w.s :: .sl w.l.length (Wr.cellsL w.l) :: Wr.cellsL l := by cases w; rfl
theorem yA3 {w : Wr} (h : mayW 6 w = true) : qB w ≠ [] := by
 intro e
 rw [pS h] at e
 have := may_sz 6 w h
 have hp := w.sz_pos
 rw [e] at this
 simp at this; omega
theorem got_nil : got [] = none := by rw [dV]; rfl
theorem eL {l : List Wr} {n : Nat} (h : l.length = n) : ((Wr.cellsL l).map D.t).take (n * 4) = (Wr.cellsL l).map D.t := yE1 (by omega)
@[push_cast] theorem cls_headZ {α : Type} {f : α → T} {l : List α} [Inhabited α] (h : 0 < l.length) : ((l.map f).map D.t).headD .bad = .t (f (l.getD 0 default)) := by
 have := yBY (f := f) (l := l) (i := 0) h
 rwa [List.drop_zero] at this
def tC (l : List (List UInt8)) : List Wr := l.map fun s => .mk 2 0 s []
@[push_cast] theorem tR (l : List (List UInt8)) : (tC l).length = l.length := by simp [tC]
theorem eM (l : List (List UInt8)) : ((Wr.cellsL (tC l)).map D.t).take (l.length * 4) = (Wr.cellsL (tC l)).map D.t := eL (tR l)
theorem txtsW_nil : tC [] = [] := rfl
theorem fI {l : List (List UInt8)} {i : Nat} (h : i < l.length) : tC (l.take (i + 1)) = tC (l.take i) ++ [.mk 2 0 (l.getD i []) []] := by
 have e : l.getD i [] = l[i] := by simp [List.getD_eq_getElem?_getD, List.getElem?_eq_getElem h]
 rw [List.take_add_one, List.getElem?_eq_getElem h, tC, List.map_append, e]; rfl
theorem szL_txts : ∀ l : List (List UInt8), Wr.szL (tC l) = l.length
 | [] => rfl
 | a :: l => by have := szL_txts l; simp only [tC, List.map_cons, Wr.szL, Wr.sz, List.length_cons] at this ⊢; omega
def tsz (l : List (List UInt8)) : Nat := (l.map fun s => 5 + s.length).sum
theorem yFu (d : Nat) (l : List (List UInt8)) : ((tC l).flatMap (putW d)).length = tsz l := by
 induction l with
 | nil => rfl
 | cons a l ih =>
  have : (putW d (.mk 2 0 a [])).length = 5 + a.length := by
   cases d with
   | zero => rw [putW_z, vZ, List.length_cons, List.length_append, nb_len]; omega
   | succ d => rw [lW, vZ, List.length_cons, List.length_append, nb_len]; omega
  simp only [tC, List.map_cons, List.flatMap_cons, List.length_append, tsz, List.sum_cons] at ih ⊢
  rw [ih, this]
theorem yFv (d : Nat) (l : List (List UInt8)) : (tC l).all (mayW d) = l.all fun s => decide (s.length ≤ 1048576) := by
 have h1 : ∀ a : List UInt8, mayW d (.mk 2 0 a []) = decide (a.length ≤ 1048576) := fun a => by
  cases d with
  | zero => rw [mayW_z, sR]; simp
  | succ d => rw [lZ, sR]; simp
 induction l with
 | nil => rfl
 | cons a l ih =>
  show (mayW d (.mk 2 0 a []) && (tC l).all (mayW d)) = (decide (a.length ≤ 1048576) && l.all fun s => decide (s.length ≤ 1048576))
  rw [h1, ih]
def wTs (l : List Wr) : List (List UInt8) := l.map Wr.s
@[push_cast] theorem qG (l : List Wr) : (wTs l).length = l.length := by simp [wTs]
theorem wTs_nil : wTs [] = [] := rfl
theorem yFr {l : List Wr} {i : Nat} (h : i < l.length) : wTs (l.take (i + 1)) = wTs (l.take i) ++ [(l.getD i default).s] := by
 have e : l.getD i default = l[i] := by simp [List.getD_eq_getElem?_getD, List.getElem?_eq_getElem h]
 rw [List.take_add_one, List.getElem?_eq_getElem h, wTs, List.map_append, e]; rfl
theorem yFp (l : List (List UInt8)) : wTs (tC l) = l := by simp [wTs, tC, Function.comp_def, Wr.s_mk]
theorem tV (d : Nat) (l : List Wr) : mayW (d + 1) (.mk 3 0 [] l) = (decide (l.length ≤ 65536) && l.all (mayW d)) := by rw [lZ, uY]; simp
theorem mR (d : Nat) (n : Int) : mayW d (.mk 1 n [] []) = true := by cases d <;> rfl
theorem kO (d : Nat) (s : List UInt8) : mayW d (.mk 2 0 s []) = decide (s.length ≤ 1048576) := by
 cases d with
 | zero => rw [mayW_z, sR]; simp
 | succ d => rw [lZ, sR]; simp
theorem mO (d : Nat) (k n : Int) (s : List UInt8) (l : List Wr) : rangeW (d + 1) (.mk k n s l) = ((-9223372036854775808 ≤ n ∧ n ≤ 9223372036854775807) ∧ ∀ x ∈ l, rangeW d x) := rfl
theorem yCt (d : Nat) (w : Wr) (h : rangeW d w) : -9223372036854775808 ≤ w.n ∧ w.n ≤ 9223372036854775807 := by
 cases w; cases d <;> exact h.1
theorem mQ (d : Nat) (n : Int) : (putW d (.mk 1 n [] [])).length = 9 := by
 cases d with
 | zero => rw [putW_z, uF, List.length_cons, nb_len]
 | succ d => rw [lW, uF, List.length_cons, nb_len]
theorem kN (d : Nat) (s : List UInt8) : (putW d (.mk 2 0 s [])).length = 5 + s.length := by
 cases d with
 | zero => rw [putW_z, vZ, List.length_cons, List.length_append, nb_len]; omega
 | succ d => rw [lW, vZ, List.length_cons, List.length_append, nb_len]; omega
theorem tU (d : Nat) (l : List Wr) : (putW (d + 1) (.mk 3 0 [] l)).length = 5 + (l.flatMap (putW d)).length := by rw [lW, bZ, List.length_cons, List.length_append, nb_len]; omega
end Go.Proofs.Tryz
