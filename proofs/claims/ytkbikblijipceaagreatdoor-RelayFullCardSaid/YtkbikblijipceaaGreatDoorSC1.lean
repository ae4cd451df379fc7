/- Contracts of this program's functions. -/
import Derived.Test.YtkbikblijipceaaGreatDoorSM1
set_option maxHeartbeats 4000000
set_option maxRecDepth 100000
set_option linter.unusedVariables false
set_option linter.unusedSimpArgs false
namespace Go.Proofs.Tryz
open Go Go.Ot
def lH (l : List Wr) : Ob := ⟨(Wr.cellsL l).map .t, 94, true, true⟩
@[push_cast] theorem rowW_eq (l : List Wr) : lH l = ⟨(Wr.cellsL l).map .t, 94, true, true⟩ := rfl
@[push_cast] theorem yE0 {l : List Wr} {i : Nat} (h : i < l.length) : (((Wr.cellsL l).map D.t).drop (i * 4)).take 4 = wC (l.getD i default) := by
 rw [← List.map_drop]; exact cells_at h
theorem pP (k n : Int) (s : List UInt8) (c l : List Wr) : Wr.cellsL (.mk k n s c :: l) = num k :: num n :: txt s :: .sl c.length (Wr.cellsL c) :: Wr.cellsL l := rfl
theorem setAt_same : ∀ (ds cs : List D) (i : Nat), (cs.drop i).take ds.length = ds → setAt cs i ds = cs
 | [], cs, i, _ => rfl
 | d :: ds, cs, i, h => by
  have hi : i < cs.length := by
   rcases Nat.lt_or_ge i cs.length with h1 | h1
   ·exact h1
   ·rw [List.drop_eq_nil_of_le h1] at h; simp at h
  rw [List.drop_eq_getElem_cons hi, List.length_cons, List.take_succ_cons] at h
  obtain ⟨h1, h2⟩ := List.cons.inj h
  rw [setAt, ← h1, List.set_getElem_self]
  exact setAt_same ds cs (i + 1) h2
@[push_cast] theorem set4_cells {l : List Wr} {i : Nat} : (((((Wr.cellsL l).map D.t).set (i * 4) (D.t (.v (.int .i64 (l.getD i default).k)))).set (i * 4 + 1) (D.t (.v (.int .i64 (l.getD i default).n)))).set (i * 4 + 1 + 1) (D.t (.v (.string (S (l.getD i default).s))))).set (i * 4 + 1 + 1 + 1) (D.t (.sl (l.getD i default).l.length (Wr.cellsL (l.getD i default).l))) = (Wr.cellsL l).map D.t := by
 rcases Nat.lt_or_ge i l.length with h | h
 ·exact setAt_same [D.t (num (l.getD i default).k), D.t (num (l.getD i default).n), D.t (txt (l.getD i default).s), D.t (.sl (l.getD i default).l.length (Wr.cellsL (l.getD i default).l))] _ _ (yE0 h)
 ·have hl : ((Wr.cellsL l).map D.t).length ≤ i * 4 := by rw [List.length_map, Wr.cellsL_len]; omega
  rw [List.set_eq_of_length_le hl, List.set_eq_of_length_le (i := i * 4 + 1) (by omega), List.set_eq_of_length_le (i := i * 4 + 1 + 1) (by omega), List.set_eq_of_length_le (i := i * 4 + 1 + 1 + 1) (by omega)]
theorem yCU {l : List Wr} {i : Nat} (h : i < l.length) : (Wr.cellsL (l.take (i + 1))).map D.t = (Wr.cellsL (l.take i)).map D.t ++ [D.t (num (l.getD i default).k), D.t (num (l.getD i default).n), D.t (txt (l.getD i default).s), D.t (.sl (l.getD i default).l.length (Wr.cellsL (l.getD i default).l))] := by
 rw [List.take_add_one, List.getElem?_eq_getElem h]
 have : l.getD i default = l[i] := by simp [List.getD_eq_getElem?_getD, List.getElem?_eq_getElem h]
 rw [this]
 exact uZ _ _
theorem sz_len : ∀ (l : List Wr), l.length ≤ Wr.szL l
 | [] => Nat.le_refl _
 | w :: l => by have := sz_len l; have := w.sz_pos; simp [Wr.szL]; omega
theorem sz_l (k n : Int) (s : List UInt8) (l : List Wr) : l.length < (Wr.mk k n s l).sz := by have := sz_len l; simp [Wr.sz]; omega
end Go.Proofs.Tryz

namespace Go.Proofs.Tryz
open Go Go.Ot
attribute [local simp] num bol txt w8 w16 w32 w64 lst cls xZ xR List.take_of_length_le
attribute [local irreducible] wpK wpS uE wH wV wN wZ xD Le rdS lpW rdW got tB mayW ixF uW putW nb u64
theorem yCO (Γ : Gl) (k n : Int) (s : List UInt8) (c l : List Wr) (hl : l.length < 1000000) : Go.Ot.Good Γ prog 147 [wS (.mk k n s c :: l)] [] (.msl (.n 0) 0 (l.length + 1) 4) [] [lH (.mk k n s c :: l)] := by
 refine yR F.mix func147 (by rfl) ntmps147 ?_
 refine yD (yA rfl ?_)
 refine yF ?_
 refine yE (yB (yC (yD (yD (yA rfl ?_)))))
 iterate 2 refine yF ?_
 refine yE (yB (yC (yJ (yL (yC (yD (yA rfl ?_)))))))
 iterate 4 refine yF ?_
 refine yE (yB (yC (yO ?_)))
 refine ⟨.inr rfl, yP [(.n 0, .r 3 0 0)] (by rw [results147]) ?_ ?_ ?_⟩ <;> simp [lH, pP, wS]
theorem clone_nil (Γ : Gl) (c : Nat) : Go.Ot.Good Γ prog 147 [.t (.v (.slice none 0 c))] [] (.msl (.n 0) 0 0 4) [] [lH []] := by
 refine yR F.mix func147 (by rfl) ntmps147 ?_
 refine yD (yA rfl ?_)
 refine yF ?_
 refine yE (yB (yC (yD (yD (yA rfl ?_)))))
 iterate 2 refine yF ?_
 refine yE (yB (yC (xF (yD (yA rfl ?_)))))
 refine yF ?_
 refine yE (yB (yC (yO (yG ?_))))
 refine ⟨.inr rfl, yP [] (by rw [results147]) ?_ ?_ ?_⟩ <;> simp [lH, Wr.cellsL_len, wA, Wr.k_mk, Wr.n_mk, Wr.s_mk, Wr.l_mk, Wr.cellsL, Wr.z_eq, pP, wS]
theorem yAV (Γ : Gl) (A : Addr) (c : Nat) : Go.Ot.Good Γ prog 147 [.t (.v (.slice (some A) 0 c))] [] (.msl (.n 0) 0 0 4) [] [lH []] := by
 refine yR F.mix func147 (by rfl) ntmps147 ?_
 refine yD (yA rfl ?_)
 refine yF ?_
 refine yE (yB (yC (yD (yD (yA rfl ?_)))))
 iterate 2 refine yF ?_
 refine yE (yB (yC (yJ (yL (yC (yD (yA rfl ?_)))))))
 iterate 4 refine yF ?_
 refine yE (yB (yC (yO ?_)))
 refine ⟨.inr rfl, yP [(.n 0, .r 3 0 0)] (by rw [results147]) ?_ ?_ ?_⟩ <;> simp [lH, Wr.cellsL_len, wA, Wr.k_mk, Wr.n_mk, Wr.s_mk, Wr.l_mk, Wr.cellsL, Wr.z_eq, pP, wS]
theorem yCN (Γ : Gl) (l : List Wr) (hl : l.length ≤ 1000000) : Go.Ot.Good Γ prog 147 [wS l] [] (.msl (.n 0) 0 l.length 4) [] [lH l] := by
 cases l with
 | nil =>
  refine tL (pre := []) (post := []) (fun A c hc => ?_)
  cases A with
  | none => exact clone_nil Γ c
  | some A => exact yAV Γ A c
 | cons a l =>
  obtain ⟨k, n, s, c⟩ := a
  exact yCO Γ k n s c l (by simp at hl; omega)
theorem yAU (Γ : Gl) (w : Wr) (hw : w.l.length ≤ 1000000) (IH : ∀ v ∈ w.l, Go.Ot.Good Γ prog 115 [wA v] [] (wA v) [] []) : Go.Ot.Good Γ prog 115 [wA w] [] (wA w) [] [] := by
 refine yR F.mix func115 (by rfl) ntmps115 ?_
 refine yD (yA rfl ?_)
 iterate 2 refine yF ?_
 refine yE (yB (yC (yD (yA rfl ?_))))
 iterate 2 refine yF ?_
 refine yU [] true (yCN Γ w.l hw) ?_
 iterate 2 refine yF ?_
 refine yE (yB (yC (yD (yD (yA rfl ?_)))))
 iterate 4 refine yF ?_
 refine yE (yB (yC (yH ?_)))
 refine xN (fun sl L (i : Nat) => ⟨setAll (setBad sl [0, 3, 4, 5, 6, 7, 8, 9, 13, 14, 15, 16, 17, 18, 19, 20, 21, 22, 23]) [(12, .t (num i))], Go.Ot.look (L)⟩) (fun i => i ≤ w.l.length) (fun i => w.l.length - i) (0) (wF ?_) ?_ ?_
 ·refine wL [(.r 0 0 0, .r 0 0 0), (.r 0 1 0, .r 0 1 0), (.r 1 2 0, .r 1 2 0)] ?_ ?_ ?_ <;> simp
 ·(first | omega | simp)
 ·intro i hi
  refine vE ?_
  refine yD (yA rfl ?_)
  refine yF ?_
  refine yE (yB (yC (yD ?_)))
  refine vL (fun hc0 => ?_) (fun hc0 => ?_)
  ·(try simp only [zB] at hc0)
   refine yL (yC (yD (yH (yD (yA rfl ?_)))))
   iterate 6 refine yF ?_
   refine yE (yB (yC (yA rfl ?_)))
   iterate 4 refine yY ?_
   refine yG8 [] [] [] true (IH (w.l.getD i default) (uR (by omega))) ?_
   iterate 2 refine yY ?_
   refine yE (xO (by kernel_rfl) (yS (yC (yA rfl ?_))))
   iterate 2 refine yF ?_
   refine yE (yB ?_)
   refine xE (i + 1) (wF ?_) ?_ ?_
   ·refine wL [(.r 0 0 0, .r 0 0 0), (.r 0 1 0, .r 0 1 0), (.r 1 2 0, .r 1 2 0)] ?_ ?_ ?_ <;> simp
   ·(first | omega | (simp_all <;> omega))
   ·(first | omega | (simp only []; omega))
  ·(try simp only [zB] at hc0)
   refine xQ (yM (yN (yK (yC (yD (yA rfl ?_))))))
   iterate 2 refine yF ?_
   refine yE (yB (yC (yO ?_)))
   refine ⟨.inr rfl, yP [] (by rw [results115]) ?_ ?_ ?_⟩ <;> simp [Wr.cellsL_len, wA, Wr.k_mk, Wr.n_mk, Wr.s_mk, Wr.l_mk, Wr.cellsL, Wr.z_eq]
theorem gF (Γ : Gl) : ∀ (N : Nat) (w : Wr), w.sz ≤ N → N ≤ 1000000 → Go.Ot.Good Γ prog 115 [wA w] [] (wA w) [] []
 | 0, w, h, _ => by have := w.sz_pos; omega
 | N + 1, w, h, h2 => yAU Γ w (by cases w with | mk k n s l => have := sz_l k n s l; simp only [Wr.l_mk]; omega) (fun v hv => gF Γ N v (by have := Wr.sz_sub hv; omega) (by omega))
theorem sY (Γ : Gl) (l : List Wr) (hl : Wr.szL l ≤ 1000000) : Go.Ot.Good Γ prog 63 [wS l] [] (wA (.mk 3 0 [] l)) [] [] := by
 have hll := sz_len l
 refine yR F.mix func63 (by rfl) ntmps63 ?_
 refine yD (yA rfl ?_)
 refine yF ?_
 refine yE (yB (yC (yD (yA rfl ?_))))
 iterate 3 refine yF ?_
 refine yE (yB (yC (yD (yD (yA rfl ?_)))))
 iterate 3 refine yF ?_
 refine yE (yB (yC (yH ?_)))
 refine xN (fun sl L (i : Nat) => ⟨setAll (setBad sl [0, 5, 6, 10, 11, 12, 13, 14, 15, 16, 17, 18, 19, 20]) [(9, .t (num i))], Go.Ot.look (vD (.r 1 1 0) (xR 94 [.t (num 3), .t (num 0), .t (txt []), .msl (.n 9) 0 i 4]) (vD (.n 9) (lH (l.take i)) L))⟩) (fun i => i ≤ l.length) (fun i => l.length - i) (0) (wF ?_) ?_ ?_
 ·refine wL [(.r 0 0 0, .r 0 0 0), (.r 1 1 0, .r 1 1 0)] ?_ ?_ ?_ <;> simp [wS, lH, List.take_zero]
 ·(first | omega | simp)
 ·intro i hi
  refine vE ?_
  refine yD (yA rfl ?_)
  refine yF ?_
  refine yE (yB (yC (yD ?_)))
  refine vL (fun hc0 => ?_) (fun hc0 => ?_)
  ·(try simp only [zB] at hc0)
   refine yL (yC (yD (yH (yD (yA rfl ?_)))))
   refine yF ?_
   refine yF (hc := by (rw [List.length_drop, Wr.cellsL_len]; omega)) ?_
   iterate 2 refine yF ?_
   refine yE (yB (yC ?_))
   refine tD (.n 9) [14] [.r 1 1 0] rfl ?_
   iterate 3 refine nK ?_
   refine vB [] [] [] true (gF Γ 1000000 (l.getD i default) (by have := Wr.sz_mem (uR (l := l) (i := i) (by omega)); omega) (by omega)) ?_
   iterate 4 refine nK ?_
   refine kK ⟨yC4 (by kernel_rfl) (by kernel_rfl), ?_⟩
   refine yS (yC (yA rfl ?_))
   iterate 2 refine yF ?_
   refine yE (yB ?_)
   refine xE (i + 1) (wF ?_) ?_ ?_
   ·refine wL [(.r 0 0 0, .r 0 0 0), (.r 1 1 0, .r 1 1 0), (.n 9, .n 9)] ?_ ?_ ?_ <;> simp [wS, lH, yCU (l := l) (i := i) (by omega)]
   ·(first | omega | (simp_all <;> omega))
   ·(first | omega | (simp only []; omega))
  ·(try simp only [zB] at hc0)
   refine xQ (yM (yN (yK (yC (yD (yA rfl ?_))))))
   obtain rfl : i = l.length := by omega
   iterate 2 refine yF ?_
   refine yE (yB (yC (yO ?_)))
   refine ⟨.inr rfl, yP [] (by rw [results63]) ?_ ?_ ?_⟩ <;> simp [Wr.cellsL_len, wA, Wr.k_mk, Wr.n_mk, Wr.s_mk, Wr.l_mk, Wr.cellsL, Wr.z_eq, wS, lH, List.take_length]
theorem uS (Γ : Gl) (n : Int) : Go.Ot.Good Γ prog 64 [.t (num n)] [] (wA (.mk 1 n [] [])) [] [] := by
 refine yR F.mix func64 (by rfl) ntmps64 ?_
 refine yD (yA rfl ?_)
 refine yF ?_
 refine yE (yB (yC (yD (yA rfl ?_))))
 iterate 3 refine yF ?_
 refine yE (yB (yC (yO ?_)))
 refine ⟨.inr rfl, yP [] (by rw [results64]) ?_ ?_ ?_⟩ <;> simp [Wr.cellsL_len, wA, Wr.k_mk, Wr.n_mk, Wr.s_mk, Wr.l_mk, Wr.cellsL, Wr.z_eq]
theorem pR (Γ : Gl) (s : List UInt8) : Go.Ot.Good Γ prog 67 [.t (txt s)] [] (wA (.mk 2 0 s [])) [] [] := by
 refine yR F.mix func67 (by rfl) ntmps67 ?_
 refine yD (yA rfl ?_)
 refine yF ?_
 refine yE (yB (yC (yD (yA rfl ?_))))
 iterate 3 refine yF ?_
 refine yE (yB (yC (yO ?_)))
 refine ⟨.inr rfl, yP [] (by rw [results67]) ?_ ?_ ?_⟩ <;> simp [Wr.cellsL_len, wA, Wr.k_mk, Wr.n_mk, Wr.s_mk, Wr.l_mk, Wr.cellsL, Wr.z_eq]
end Go.Proofs.Tryz
