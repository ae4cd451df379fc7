/- Contracts of this program's functions. -/
import Derived.Test.YtkbikblijipceaaGreatDoorSQ1
import Derived.Test.YtkbikblijipceaaGreatDoorOtE
import Derived.Test.YtkbikblijipceaaGreatDoorSU1
import Derived.Test.YtkbikblijipceaaGreatDoorSU2
set_option maxHeartbeats 4000000
set_option maxRecDepth 100000
set_option linter.unusedVariables false
set_option linter.unusedSimpArgs false
namespace Go.Proofs.Tryz
open Go Go.Ot
theorem yDN {W : Wr} {i : Nat} (h : W.l.length ≤ i) : part W i = Wr.z := by rw [part, List.getD_eq_getElem?_getD, List.getElem?_eq_none h]; rfl
theorem yF1 {W : Wr} {i : Nat} (h : i < W.l.length) : part W i = W.l.getD i default := by rw [part, List.getD_eq_getElem?_getD, List.getD_eq_getElem?_getD, List.getElem?_eq_getElem h]; rfl
theorem yI8 (o : Option Wr) : gotD o = .agg [.t (num (o.getD Wr.z).k), .t (num (o.getD Wr.z).n), .t (txt (o.getD Wr.z).s), .t (.sl (o.getD Wr.z).l.length (Wr.cellsL (o.getD Wr.z).l)), .t (bol o.isSome)] := by cases o <;> rfl
theorem yAL (s : List UInt8) (i : Nat) : tsz (wTs (part ((got s).getD Wr.z) i).l) ≤ s.length := by
 cases h : got s with
 | none => rw [Option.getD_none, yDN (by simp [Wr.z_eq, Wr.l_mk])]; simp [Wr.z_eq, Wr.l_mk, wTs, tsz]
 | some W => rw [Option.getD_some]; exact eA h i
theorem cls_s {l : List Wr} {i : Nat} (h : i < l.length) : (List.map D.t (List.drop 2 (List.drop (i * 4) (Wr.cellsL l)))).headD D.bad = D.t (txt (l.getD i default).s) := by
 induction l generalizing i with
 | nil => simp at h
 | cons w l ih =>
  cases i with
  | zero => rw [kE]; rfl
  | succ i =>
   have := ih (i := i) (by simpa using h)
   rw [kE, show (i + 1) * 4 = i * 4 + 4 from by omega]
   simpa using this
def refRp : Option Rp → D
 | some q => .agg [.t (num q.k), .t (num q.d), .t (num q.n), .t (lst txt q.l), .t (bol true)]
 | none => .agg [.t (num 0), .t (num 0), .t (num 0), .t (lst txt []), .t (bol false)]
theorem pZ (q : Rp) : refRp (some q) = .agg [.t (num q.k), .t (num q.d), .t (num q.n), .t (.sl q.l.length (q.l.map txt)), .t (bol true)] := rfl
end Go.Proofs.Tryz

namespace Go.Proofs.Tryz
open Go Go.Ot
attribute [local simp] num bol txt w8 w16 w32 w64 lst cls xZ xR List.take_of_length_le
attribute [local irreducible] wpK wpS uE wH wV wN wZ xD Le rdS lpW rdW got tB mayW ixF uW putW nb nbS u64 fmT qB Rq.p Rp.p GQ GP tsz wTs
theorem sX (Γ : Gl) (n : Int) : Go.Ot.Good Γ prog 42 [.t (num n)] [] (wA (.mk 1 n [] [])) [] [] := by
 refine yR F.mix func42 (by rfl) ntmps42 ?_
 refine yD (yA rfl ?_)
 refine yF ?_
 refine yE (yB (yC (yD (yA rfl ?_))))
 iterate 3 refine yF ?_
 refine yE (yB (yC (yO ?_)))
 refine ⟨.inr rfl, yP [] (by rw [results42]) ?_ ?_ ?_⟩ <;> simp [Wr.cellsL_len, wA, Wr.k_mk, Wr.n_mk, Wr.s_mk, Wr.l_mk, Wr.cellsL, Wr.z_eq]
theorem eQ (Γ : Gl) (s : List UInt8) : Go.Ot.Good Γ prog 43 [.t (txt s)] [] (wA (.mk 2 0 s [])) [] [] := by
 refine yR F.mix func43 (by rfl) ntmps43 ?_
 refine yD (yA rfl ?_)
 refine yF ?_
 refine yE (yB (yC (yD (yA rfl ?_))))
 iterate 3 refine yF ?_
 refine yE (yB (yC (yO ?_)))
 refine ⟨.inr rfl, yP [] (by rw [results43]) ?_ ?_ ?_⟩ <;> simp [Wr.cellsL_len, wA, Wr.k_mk, Wr.n_mk, Wr.s_mk, Wr.l_mk, Wr.cellsL, Wr.z_eq]
theorem lS (Γ : Gl) (l : List Wr) : Go.Ot.Good Γ prog 41 [wS l] [] (wA (.mk 3 0 [] l)) [] [] := by
 refine yR F.mix func41 (by rfl) ntmps41 ?_
 refine yD (yA rfl ?_)
 refine yF ?_
 refine yE (yB (yC (yD (yA rfl ?_))))
 iterate 3 refine yF ?_
 refine yE (yB (yC (yO ?_)))
 refine ⟨.inr rfl, yP [] (by rw [results41]) ?_ ?_ ?_⟩ <;> simp [Wr.cellsL_len, wA, Wr.k_mk, Wr.n_mk, Wr.s_mk, Wr.l_mk, Wr.cellsL, Wr.z_eq]
theorem lB (Γ : Gl) (W : Wr) (i : Nat) : Go.Ot.Good Γ prog 46 [wA W, .t (num i)] [] (wA (part W i)) [] [] := by
 refine yR F.mix func46 (by rfl) ntmps46 ?_
 refine yD (yA rfl ?_)
 iterate 2 refine yF ?_
 refine yE (yB (yC (yD (yD (yA rfl ?_)))))
 iterate 5 refine yF ?_
 refine yE (yB (yC ?_))
 refine vL (fun hc0 => ?_) (fun hc0 => ?_)
 ·(try simp only [zB] at hc0)
  have he : part W i = Wr.z := yDN (by omega)
  refine yD (yA rfl ?_)
  iterate 2 refine yF ?_
  refine yE (yB (yC (yO (yG ?_))))
  refine ⟨.inr rfl, yP [] (by rw [results46]) ?_ ?_ ?_⟩ <;> simp [Wr.cellsL_len, wA, Wr.k_mk, Wr.n_mk, Wr.s_mk, Wr.l_mk, Wr.cellsL, Wr.z_eq, he]
 ·(try simp only [zB] at hc0)
  have he : part W i = W.l.getD i default := yF1 (by omega)
  refine yL (yC (yD (yA rfl ?_)))
  iterate 4 refine yF ?_
  refine yF (hc := by (rw [List.length_drop, Wr.cellsL_len]; omega)) ?_
  refine yF ?_
  refine yE (yB (yC (yO ?_)))
  refine ⟨.inr rfl, yP [] (by rw [results46]) ?_ ?_ ?_⟩ <;> simp [Wr.cellsL_len, wA, Wr.k_mk, Wr.n_mk, Wr.s_mk, Wr.l_mk, Wr.cellsL, Wr.z_eq, he]
theorem Part0 (Γ : Gl) (W : Wr) : Go.Ot.Good Γ prog 46 [wA W, .t (num 0)] [] (wA (part W 0)) [] [] := lB Γ W 0
theorem Part1 (Γ : Gl) (W : Wr) : Go.Ot.Good Γ prog 46 [wA W, .t (num 1)] [] (wA (part W 1)) [] [] := lB Γ W 1
theorem Part2 (Γ : Gl) (W : Wr) : Go.Ot.Good Γ prog 46 [wA W, .t (num 2)] [] (wA (part W 2)) [] [] := lB Γ W 2
theorem Part3 (Γ : Gl) (W : Wr) : Go.Ot.Good Γ prog 46 [wA W, .t (num 3)] [] (wA (part W 3)) [] [] := lB Γ W 3
theorem yC2 (Γ : Gl) (W : Wr) (hl : W.l.length ≤ 1000000) : Go.Ot.Good Γ prog 47 [wA W] [] (.t (lst txt (wTs W.l))) [] [] := by
 refine yR F.mix func47 (by rfl) ntmps47 ?_
 refine yD (yA rfl ?_)
 iterate 2 refine yF ?_
 refine yE (yB (yC (yD (yA rfl ?_))))
 refine yF ?_
 refine yE (yB (yC (yD (yD (yA rfl ?_)))))
 refine yF ?_
 refine yE (yB (yC (yH ?_)))
 refine xN (fun sl L (i : Nat) => ⟨setAll (setBad sl [0, 5, 6, 7, 8, 9, 10, 11, 12, 13, 14, 15, 16, 17, 18, 19, 20]) [(3, .msl (.n 9) 0 i 1), (4, .t (num i))], Go.Ot.look (vD (.n 9) (xZ 9 txt (wTs (W.l.take i))) L)⟩) (fun i => i ≤ W.l.length) (fun i => W.l.length - i) (0) (wF ?_) ?_ ?_
 ·refine wL [(.r 0 0 0, .r 0 0 0)] ?_ ?_ ?_ <;> simp [qG, List.take_zero, wTs_nil]
 ·(first | omega | simp)
 ·intro i hi
  refine vE ?_
  refine yD (yD (yA rfl ?_))
  iterate 5 refine yF ?_
  refine yE (yB (yC ?_))
  refine vL (fun hc0 => ?_) (fun hc0 => ?_)
  ·(try simp only [zB] at hc0)
   refine yL (yC (yD (yH (yA rfl ?_))))
   have hil : i < W.l.length := by omega
   iterate 4 refine yF ?_
   refine yF (hc := by first | exact True.intro | omega | (simp only [List.length_drop, Wr.cellsL_len]; omega)) ?_
   refine yF (hc := by first | exact True.intro | omega | (simp only [List.length_drop, Wr.cellsL_len]; omega)) ?_
   refine yF (hs := by (simp only [push_cast, cls_s hil] <;> rfl)) (hc := by (simp only [List.length_drop, Wr.cellsL_len]; omega)) ?_
   iterate 3 refine yF ?_
   refine yE (yB (yS (yC (yA rfl ?_))))
   iterate 3 refine yF ?_
   refine yE (yB ?_)
   refine xE (i + 1) (wF ?_) ?_ ?_
   ·refine wL [(.r 0 0 0, .r 0 0 0), (.n 9, .n 9)] ?_ ?_ ?_ <;> simp [-List.map_set, -List.map_replicate, -List.reduceReplicate, -List.map_map, -List.map_drop, -List.map_take, qG, yFr hil]
   ·(first | omega | (simp_all <;> omega))
   ·(first | omega | (simp only []; omega))
  ·(try simp only [zB] at hc0)
   refine xQ (yM (yN (yK (yC (yD (yA rfl ?_))))))
   have hil : i = W.l.length := by omega
   subst hil
   have htl : W.l.take W.l.length = W.l := List.take_length
   iterate 2 refine yF ?_
   refine yE (yB (yC (yO ?_)))
   refine ⟨.inr rfl, yP [] (by rw [results47]) ?_ ?_ ?_⟩ <;> simp [-List.map_set, -List.map_replicate, -List.reduceReplicate, -List.map_map, -List.map_drop, -List.map_take, qG, List.take_length, yFq]
theorem cJ (Γ : Gl) (l : List (List UInt8)) (hl : l.length ≤ 1000000) : Go.Ot.Good Γ prog 53 [.t (lst txt l)] [] (wA (.mk 3 0 [] (tC l))) [] [] := by
 refine yR F.mix func53 (by rfl) ntmps53 ?_
 refine yD (yA rfl ?_)
 refine yF ?_
 refine yE (yB (yC (yD (yA rfl ?_))))
 refine yF ?_
 refine yE (yB (yC (yD (yD (yA rfl ?_)))))
 refine yF ?_
 refine yE (yB (yC (yH ?_)))
 refine xN (fun sl L (i : Nat) => ⟨setAll (setBad sl [5, 6, 7, 8, 9, 10, 11, 12, 13, 14, 15, 16, 17, 18]) [(3, .msl (.n 9) 0 i 4), (4, .t (num i))], Go.Ot.look (vD (.n 9) (lH (tC (l.take i))) L)⟩) (fun i => i ≤ l.length) (fun i => l.length - i) (0) (wF ?_) ?_ ?_
 ·refine wL [(.r 0 0 0, .r 0 0 0)] ?_ ?_ ?_ <;> simp [Wr.cellsL_len, wA, Wr.k_mk, Wr.n_mk, Wr.s_mk, Wr.l_mk, Wr.cellsL, Wr.z_eq, tR, lH, txtsW_nil]
 ·(first | omega | simp)
 ·intro i hi
  refine vE ?_
  refine yD (yD (yA rfl ?_))
  iterate 4 refine yF ?_
  refine yE (yB (yC ?_))
  refine vL (fun hc0 => ?_) (fun hc0 => ?_)
  ·(try simp only [zB] at hc0)
   refine yL (yC (yD (yH (yA rfl ?_))))
   have hil : i < l.length := by omega
   iterate 5 refine yF ?_
   refine yU [] false (eQ Γ (l.getD i [])) ?_
   iterate 3 refine yF ?_
   refine yE (yB (yS (yC (yA rfl ?_))))
   iterate 3 refine yF ?_
   refine yE (yB ?_)
   refine xE (i + 1) (wF ?_) ?_ ?_
   ·refine wL [(.r 0 0 0, .r 0 0 0), (.n 9, .n 9)] ?_ ?_ ?_ <;> simp [Wr.cellsL_len, wA, Wr.k_mk, Wr.n_mk, Wr.s_mk, Wr.l_mk, Wr.cellsL, Wr.z_eq, tR, lH, fI hil, uZ, wC]
   ·(first | omega | (simp_all <;> omega))
   ·(first | omega | (simp only []; omega))
  ·(try simp only [zB] at hc0)
   refine xQ (yM (yN (yK (yC (yD (yA rfl ?_))))))
   have hil : i = l.length := by omega
   subst hil
   refine yF ?_
   refine yU [.n 9] true (lS Γ (tC l)) ?_ (hv := by (simp (disch := first | omega | (simp only [zL] <;> omega) | fail) [-List.map_map, -List.map_drop, -List.map_take, VwL_cons, xM, xY, vN, xV, xW, xU, Vw_agg, xS, xX, xA, VwL_refl_map, yX, xK, xL, wK, xJ, yW, xC, yV, VwTs_app, List.take_of_length_le, srcL, notIn, ObsVw, SrcOk, pOk, Go.Ot.look, resP, resN, ev, evc, mkS, push_cast, List.take_of_length_le, eM, tR] <;> (try omega)))
   refine yF ?_
   refine yE (yB (yC (yO ?_)))
   refine ⟨.inr rfl, yP [] (by rw [results53]) ?_ ?_ ?_⟩ <;> simp [Wr.cellsL_len, wA, Wr.k_mk, Wr.n_mk, Wr.s_mk, Wr.l_mk, Wr.cellsL, Wr.z_eq, tR]
theorem tT (Γ : Gl) (q : Rq) : Go.Ot.Good Γ prog 15 [qA q] [] (.t (txt q.p)) [] [] := by
 refine yR F.mix func15 (by rfl) ntmps15 ?_
 refine yD (yA rfl ?_)
 iterate 2 refine yF ?_
 refine yE (yB (yC (yD (yA rfl ?_))))
 iterate 2 refine yY ?_
 refine yZ [] false (sX Γ q.k) ?_
 iterate 2 refine yY ?_
 refine yZ [] false (sX Γ q.d) ?_
 iterate 2 refine yY ?_
 refine yZ [] false (sX Γ q.n) ?_
 iterate 2 refine yY ?_
 refine yZ [] false (eQ Γ q.b) ?_
 refine yY ?_
 refine yZ [.r 1 12 0] true (lS Γ [.mk 1 q.k [] [], .mk 1 q.d [] [], .mk 1 q.n [] [], .mk 2 0 q.b []]) ?_
 refine yZ [] false (lA Γ (rqW q.k q.d q.n q.b) (by rw [rqW_sz]; omega) (fun h => by have := yHi (q := q) h; exact Nat.le_trans this (by omega))) ?_
 refine yY ?_
 refine yE (xO (by kernel_rfl) (yC (yO ?_)))
 refine ⟨.inr rfl, yP [] (by rw [results15]) ?_ ?_ ?_⟩ <;> simp [Rq.p, Rq.w]
theorem yAy (Γ : Gl) (q : Rp) (hq : tsz q.l ≤ 10000000) (hl : q.l.length ≤ 900000) : Go.Ot.Good Γ prog 25 [pA q] [] (.t (txt q.p)) [] [] := by
 refine yR F.mix func25 (by rfl) ntmps25 ?_
 refine yD (yA rfl ?_)
 iterate 2 refine yF ?_
 refine yE (yB (yC (yD (yA rfl ?_))))
 iterate 2 refine yY ?_
 refine yZ [] false (sX Γ q.k) ?_
 iterate 2 refine yY ?_
 refine yZ [] false (sX Γ q.d) ?_
 iterate 2 refine yY ?_
 refine yZ [] false (sX Γ q.n) ?_
 iterate 2 refine yY ?_
 refine yZ [] true (cJ Γ q.l (by omega)) ?_
 refine yY ?_
 refine yZ [.r 1 12 0] true (lS Γ [.mk 1 q.k [] [], .mk 1 q.d [] [], .mk 1 q.n [] [], .mk 3 0 [] (tC q.l)]) ?_
 refine yZ [] false (lA Γ (rpW q.k q.d q.n q.l) (by rw [rpW_sz]; omega) (fun h => by have := yHj (q := q) h; exact Nat.le_trans this (by omega))) ?_
 refine yY ?_
 refine yE (xO (by kernel_rfl) (yC (yO ?_)))
 refine ⟨.inr rfl, yP [] (by rw [results25]) ?_ ?_ ?_⟩ <;> simp [Rp.p, Rp.w]
end Go.Proofs.Tryz

namespace Go.Proofs.Tryz
open Go Go.Ot
attribute [local simp] num bol txt w8 w16 w32 w64 lst cls xZ xR List.take_of_length_le
attribute [local irreducible] wpK wpS uE wH wV wN wZ xD Le rdS lpW rdW got tB mayW ixF uW putW nb nbS u64 fmT qB Rq.p Rp.p GQ GP tsz wTs
theorem yFR (Γ : Gl) (s : List UInt8) (hs : s.length ≤ 1000000) (W : Wr) (hW : (got s).getD Wr.z = W) (ht : tsz (wTs (part W 3).l) ≤ 1000000) : Go.Ot.Good Γ prog 17 [.t (txt s)] [] ((if s = [] ∨ (⟨(part W 0).n, (part W 1).n, (part W 2).n, wTs (part W 3).l⟩ : Rp).p ≠ s then .agg [.t (num 0), .t (num 0), .t (num 0), .t (lst txt []), .t (bol false)] else .agg [.t (num (part W 0).n), .t (num (part W 1).n), .t (num (part W 2).n), .t (lst txt (wTs (part W 3).l)), .t (bol true)])) [] [] := by
 obtain ⟨b, hb⟩ : ∃ b, (got s).isSome = b := ⟨_, rfl⟩
 have hg := yFf Γ s hs
 rw [yI8, hW, hb] at hg
 have htl := tsz_len (wTs (part W 3).l)
 refine yR F.mix func17 (by rfl) ntmps17 ?_
 refine yD (yA rfl ?_)
 refine yF ?_
 refine yE (yB (yC (yD (yA rfl ?_))))
 refine yF ?_
 refine yU [] true (hg) ?_
 iterate 3 refine yF ?_
 refine yE (yB (yC (yD (yA rfl ?_))))
 refine yY ?_
 refine yZ [] true (Part0 Γ W) ?_
 iterate 2 refine yY ?_
 refine yZ [] true (Part1 Γ W) ?_
 iterate 2 refine yY ?_
 refine yZ [] true (Part2 Γ W) ?_
 iterate 2 refine yY ?_
 refine yZ [] true (Part3 Γ W) ?_
 refine yZ [] true (yC2 Γ (part W 3) (by rw [qG] at htl; omega)) ?_
 iterate 3 refine yY ?_
 refine yE (xO (by kernel_rfl) (yC (yD (yD (yA rfl ?_)))))
 have hh : (s = [] ∧ (s == []) = true) ∨ (s ≠ [] ∧ (s == []) = false) := by
  by_cases h : s = []
  ·exact .inl ⟨h, by simp [h]⟩
  ·exact .inr ⟨h, by simp [h]⟩
 rcases hh with ⟨h0, hb0⟩ | ⟨h0, hb0⟩
 ·skip
  refine yF ?_
  refine yF (hs := by (simp (disch := first | omega | (simp only [zL] <;> omega) | (simp only [push_cast] <;> omega) | fail) only [push_cast, reduceCtorEq, Nat.reduceAdd, Nat.reduceSub, Nat.reduceMul, Nat.reduceEqDiff, Nat.reduceLT, Nat.reduceLeDiff, Nat.reduceMod, Nat.reduceDiv, Int.reduceLE, Int.reduceLT, Int.reduceEq, Int.reduceToNat, Int.reduceAdd, Int.reduceSub, Int.reduceMul, Int.reduceNeg, hb0] <;> rfl)) ?_
  refine yF ?_
  iterate 4 refine wJ ?_
  refine yF ?_
  refine yE (yB (yC (xF (yD (yA rfl ?_)))))
  iterate 2 refine yF ?_
  refine yE (yB (yC (yO (yG ?_))))
  refine ⟨.inr rfl, yP [] (by rw [results17]) ?_ ?_ ?_⟩ <;> simp [qG, h0]
 ·skip
  refine yF ?_
  refine yF (hs := by (simp (disch := first | omega | (simp only [zL] <;> omega) | (simp only [push_cast] <;> omega) | fail) only [push_cast, reduceCtorEq, Nat.reduceAdd, Nat.reduceSub, Nat.reduceMul, Nat.reduceEqDiff, Nat.reduceLT, Nat.reduceLeDiff, Nat.reduceMod, Nat.reduceDiv, Int.reduceLE, Int.reduceLT, Int.reduceEq, Int.reduceToNat, Int.reduceAdd, Int.reduceSub, Int.reduceMul, Int.reduceNeg, hb0] <;> rfl)) ?_
  refine yF ?_
  refine xB ?_
  refine wT [] false (yAy Γ (⟨(part W 0).n, (part W 1).n, (part W 2).n, wTs (part W 3).l⟩ : Rp) (by show tsz (wTs (part W 3).l) ≤ 10000000; omega) (by show (wTs (part W 3).l).length ≤ 900000; omega)) ?_
  iterate 2 refine xB ?_
  refine yF ?_
  refine yE (yB (yC ?_))
  refine vL (fun hc0 => ?_) (fun hc0 => ?_)
  ·(try simp only [zB] at hc0)
   have he : (⟨(part W 0).n, (part W 1).n, (part W 2).n, wTs (part W 3).l⟩ : Rp).p ≠ s := by simpa using hc0
   refine yD (yA rfl ?_)
   iterate 2 refine yF ?_
   refine yE (yB (yC (yO (yG ?_))))
   refine ⟨.inr rfl, yP [] (by rw [results17]) ?_ ?_ ?_⟩ <;> simp [qG, h0, he]
  ·(try simp only [zB] at hc0)
   have he : (⟨(part W 0).n, (part W 1).n, (part W 2).n, wTs (part W 3).l⟩ : Rp).p = s := by simpa using hc0
   refine yL (yC (yD (yA rfl ?_)))
   iterate 3 refine yF ?_
   refine yE (yB (yC (yO ?_)))
   refine ⟨.inr rfl, yP [] (by rw [results17]) ?_ ?_ ?_⟩ <;> simp [qG, h0, he]
theorem nI (Γ : Gl) (s : List UInt8) (hs : s.length ≤ 1000000) : Go.Ot.Good Γ prog 17 [.t (txt s)] [] (refRp (GP s)) [] [] := by
 have h : Go.Ot.Good Γ prog 17 [.t (txt s)] [] (if s = [] ∨ (pOf ((got s).getD Wr.z)).p ≠ s then refRp none else refRp (some (pOf ((got s).getD Wr.z)))) [] [] := yFR Γ s hs _ rfl (Nat.le_trans (yAL s 3) hs)
 rw [GP]
 show Go.Ot.Good Γ prog 17 [.t (txt s)] [] (refRp (if s = [] ∨ (pOf ((got s).getD Wr.z)).p ≠ s then none else some (pOf ((got s).getD Wr.z)))) [] []
 by_cases hc : s = [] ∨ (pOf ((got s).getD Wr.z)).p ≠ s
 ·rw [if_pos hc]; rw [if_pos hc] at h; exact h
 ·rw [if_neg hc]; rw [if_neg hc] at h; exact h
end Go.Proofs.Tryz
