/- Contracts of this program's functions. -/
import Derived.Test.YtkbikblijipceaaGreatDoorSMF2
import Derived.Test.YtkbikblijipceaaGreatDoorSCH1
import Derived.Test.YtkbikblijipceaaGreatDoorSJ
import Derived.Test.YtkbikblijipceaaGreatDoorSU1
set_option maxHeartbeats 4000000
set_option maxRecDepth 100000
set_option linter.unusedVariables false
set_option linter.unusedSimpArgs false
namespace Go.Proofs.Tryz
open Go Go.Ot
attribute [local simp] num bol txt w8 w16 w32 w64 lst cls xZ xR List.take_of_length_le
attribute [local irreducible] wpK wpS uE wH wV wN wZ xD Le rdS lpW rdW got tB mayW uW putW nb u64 qB mwB sha rcF hdF hsh RG inF chC fl lkT wpW Cy.hmacB
theorem yCp (Γ : Gl) (r : Rc) (hp : rcP r) : Go.Ot.Good Γ prog 44 [.agg [.t (num r.seq), .t (txt r.prev), .t (num r.kind), .t (num r.dev), .t (.sl r.wraps.length (r.wraps.flatMap wpT)), .t (txt r.tag)]] [] (.t (bol true)) [] [] := by
 obtain ⟨hs, hs2, hP, hK, hd, hT, hm⟩ := hp
 have hwl := (sQ hm).1
 refine yR F.mix func44 (by rfl) ntmps44 ?_
 refine yD (yA rfl ?_)
 iterate 2 refine yF ?_
 refine yE (yB (yC ?_))
 refine dR (fun sl L (_u : Unit) => ⟨setAll (setBad sl [0, 2, 5, 6, 7, 8, 9, 10, 11, 12, 13, 14, 15, 16, 17, 18, 19, 20, 21, 22, 23, 24, 25, 26, 27, 28, 29, 30, 31, 32, 33, 34, 35, 36, 37, 38, 39, 40, 41, 42, 43, 44, 45, 46, 47, 48, 49, 50, 51, 52, 53, 54, 55, 56, 57, 58, 59]) [], Go.Ot.look (L)⟩) (fun _ => True) ?_ ?_
 ·skip
  refine yD (yA rfl ?_)
  rcases hP with p1 | ⟨p1, p2⟩ <;> rcases hK with k1 | k1 <;> rcases hT with t1 | t1
  ·have t2 : r.tag.length = 0 := by rw [t1]; rfl
   iterate 4 refine yF ?_
   iterate 3 refine xB ?_
   iterate 2 refine yF ?_
   iterate 5 refine xB ?_
   iterate 8 refine wJ ?_
   refine xB ?_
   iterate 2 refine yF ?_
   iterate 4 refine xB ?_
   iterate 3 refine wJ ?_
   refine xB ?_
   iterate 2 refine yF ?_
   iterate 3 refine xB ?_
   iterate 2 refine yF ?_
   iterate 3 refine xB ?_
   iterate 2 refine yF ?_
   iterate 7 refine xB ?_
   refine xB (hs := by (simp (disch := first | omega | (simp only [zL] <;> omega) | (simp only [push_cast] <;> omega) | fail) only [push_cast, reduceCtorEq, Nat.reduceAdd, Nat.reduceSub, Nat.reduceMul, Nat.reduceEqDiff, Nat.reduceLT, Nat.reduceLeDiff, Nat.reduceMod, Nat.reduceDiv, Int.reduceLE, Int.reduceLT, Int.reduceEq, Int.reduceToNat, Int.reduceAdd, Int.reduceSub, Int.reduceMul, Int.reduceNeg, t1, beq_self_eq_true] <;> rfl)) ?_
   refine xB ?_
   refine yF ?_
   refine yE (yB (yC (yJ (yL ?_))))
   refine vU (()) (wF ?_) ?_
   ·refine yT ?_ ?_ ?_ <;> simp [rcT, wpT]
   ·trivial
  ·skip
   iterate 4 refine yF ?_
   iterate 3 refine xB ?_
   iterate 2 refine yF ?_
   iterate 5 refine xB ?_
   iterate 8 refine wJ ?_
   refine xB ?_
   iterate 2 refine yF ?_
   iterate 4 refine xB ?_
   iterate 3 refine wJ ?_
   refine xB ?_
   iterate 2 refine yF ?_
   iterate 3 refine xB ?_
   iterate 2 refine yF ?_
   iterate 3 refine xB ?_
   iterate 2 refine yF ?_
   iterate 5 refine xB ?_
   iterate 3 refine wJ ?_
   refine xB ?_
   refine yF ?_
   refine yE (yB (yC (yJ (yL ?_))))
   refine vU (()) (wF ?_) ?_
   ·refine yT ?_ ?_ ?_ <;> simp [rcT, wpT]
   ·trivial
  ·have t2 : r.tag.length = 0 := by rw [t1]; rfl
   iterate 4 refine yF ?_
   iterate 3 refine xB ?_
   iterate 2 refine yF ?_
   iterate 5 refine xB ?_
   iterate 8 refine wJ ?_
   refine xB ?_
   iterate 2 refine yF ?_
   iterate 8 refine xB ?_
   iterate 2 refine yF ?_
   iterate 3 refine xB ?_
   iterate 2 refine yF ?_
   iterate 3 refine xB ?_
   iterate 2 refine yF ?_
   iterate 7 refine xB ?_
   refine xB (hs := by (simp (disch := first | omega | (simp only [zL] <;> omega) | (simp only [push_cast] <;> omega) | fail) only [push_cast, reduceCtorEq, Nat.reduceAdd, Nat.reduceSub, Nat.reduceMul, Nat.reduceEqDiff, Nat.reduceLT, Nat.reduceLeDiff, Nat.reduceMod, Nat.reduceDiv, Int.reduceLE, Int.reduceLT, Int.reduceEq, Int.reduceToNat, Int.reduceAdd, Int.reduceSub, Int.reduceMul, Int.reduceNeg, t1, beq_self_eq_true] <;> rfl)) ?_
   refine xB ?_
   refine yF ?_
   refine yE (yB (yC (yJ (yL ?_))))
   refine vU (()) (wF ?_) ?_
   ·refine yT ?_ ?_ ?_ <;> simp [rcT, wpT]
   ·trivial
  ·skip
   iterate 4 refine yF ?_
   iterate 3 refine xB ?_
   iterate 2 refine yF ?_
   iterate 5 refine xB ?_
   iterate 8 refine wJ ?_
   refine xB ?_
   iterate 2 refine yF ?_
   iterate 8 refine xB ?_
   iterate 2 refine yF ?_
   iterate 3 refine xB ?_
   iterate 2 refine yF ?_
   iterate 3 refine xB ?_
   iterate 2 refine yF ?_
   iterate 5 refine xB ?_
   iterate 3 refine wJ ?_
   refine xB ?_
   refine yF ?_
   refine yE (yB (yC (yJ (yL ?_))))
   refine vU (()) (wF ?_) ?_
   ·refine yT ?_ ?_ ?_ <;> simp [rcT, wpT]
   ·trivial
  ·have t2 : r.tag.length = 0 := by rw [t1]; rfl
   iterate 4 refine yF ?_
   iterate 3 refine xB ?_
   iterate 2 refine yF ?_
   iterate 3 refine xB ?_
   refine xB (hs := by (simp (disch := first | omega | (simp only [zL] <;> omega) | (simp only [push_cast] <;> omega) | fail) only [push_cast, reduceCtorEq, Nat.reduceAdd, Nat.reduceSub, Nat.reduceMul, Nat.reduceEqDiff, Nat.reduceLT, Nat.reduceLeDiff, Nat.reduceMod, Nat.reduceDiv, Int.reduceLE, Int.reduceLT, Int.reduceEq, Int.reduceToNat, Int.reduceAdd, Int.reduceSub, Int.reduceMul, Int.reduceNeg, show ¬ ((r.prev.length : Int) = 32) from by rw [p2]; decide] <;> rfl)) ?_
   iterate 7 refine xB ?_
   refine xB (hs := by (simp (disch := first | omega | (simp only [zL] <;> omega) | (simp only [push_cast] <;> omega) | fail) only [push_cast, reduceCtorEq, Nat.reduceAdd, Nat.reduceSub, Nat.reduceMul, Nat.reduceEqDiff, Nat.reduceLT, Nat.reduceLeDiff, Nat.reduceMod, Nat.reduceDiv, Int.reduceLE, Int.reduceLT, Int.reduceEq, Int.reduceToNat, Int.reduceAdd, Int.reduceSub, Int.reduceMul, Int.reduceNeg, p2, beq_self_eq_true] <;> rfl)) ?_
   iterate 2 refine xB ?_
   iterate 2 refine yF ?_
   iterate 4 refine xB ?_
   iterate 3 refine wJ ?_
   refine xB ?_
   iterate 2 refine yF ?_
   iterate 3 refine xB ?_
   iterate 2 refine yF ?_
   iterate 3 refine xB ?_
   iterate 2 refine yF ?_
   iterate 7 refine xB ?_
   refine xB (hs := by (simp (disch := first | omega | (simp only [zL] <;> omega) | (simp only [push_cast] <;> omega) | fail) only [push_cast, reduceCtorEq, Nat.reduceAdd, Nat.reduceSub, Nat.reduceMul, Nat.reduceEqDiff, Nat.reduceLT, Nat.reduceLeDiff, Nat.reduceMod, Nat.reduceDiv, Int.reduceLE, Int.reduceLT, Int.reduceEq, Int.reduceToNat, Int.reduceAdd, Int.reduceSub, Int.reduceMul, Int.reduceNeg, t1, beq_self_eq_true] <;> rfl)) ?_
   refine xB ?_
   refine yF ?_
   refine yE (yB (yC (yJ (yL ?_))))
   refine vU (()) (wF ?_) ?_
   ·refine yT ?_ ?_ ?_ <;> simp [rcT, wpT]
   ·trivial
  ·skip
   iterate 4 refine yF ?_
   iterate 3 refine xB ?_
   iterate 2 refine yF ?_
   iterate 3 refine xB ?_
   refine xB (hs := by (simp (disch := first | omega | (simp only [zL] <;> omega) | (simp only [push_cast] <;> omega) | fail) only [push_cast, reduceCtorEq, Nat.reduceAdd, Nat.reduceSub, Nat.reduceMul, Nat.reduceEqDiff, Nat.reduceLT, Nat.reduceLeDiff, Nat.reduceMod, Nat.reduceDiv, Int.reduceLE, Int.reduceLT, Int.reduceEq, Int.reduceToNat, Int.reduceAdd, Int.reduceSub, Int.reduceMul, Int.reduceNeg, show ¬ ((r.prev.length : Int) = 32) from by rw [p2]; decide] <;> rfl)) ?_
   iterate 7 refine xB ?_
   refine xB (hs := by (simp (disch := first | omega | (simp only [zL] <;> omega) | (simp only [push_cast] <;> omega) | fail) only [push_cast, reduceCtorEq, Nat.reduceAdd, Nat.reduceSub, Nat.reduceMul, Nat.reduceEqDiff, Nat.reduceLT, Nat.reduceLeDiff, Nat.reduceMod, Nat.reduceDiv, Int.reduceLE, Int.reduceLT, Int.reduceEq, Int.reduceToNat, Int.reduceAdd, Int.reduceSub, Int.reduceMul, Int.reduceNeg, p2, beq_self_eq_true] <;> rfl)) ?_
   iterate 2 refine xB ?_
   iterate 2 refine yF ?_
   iterate 4 refine xB ?_
   iterate 3 refine wJ ?_
   refine xB ?_
   iterate 2 refine yF ?_
   iterate 3 refine xB ?_
   iterate 2 refine yF ?_
   iterate 3 refine xB ?_
   iterate 2 refine yF ?_
   iterate 5 refine xB ?_
   iterate 3 refine wJ ?_
   refine xB ?_
   refine yF ?_
   refine yE (yB (yC (yJ (yL ?_))))
   refine vU (()) (wF ?_) ?_
   ·refine yT ?_ ?_ ?_ <;> simp [rcT, wpT]
   ·trivial
  ·have t2 : r.tag.length = 0 := by rw [t1]; rfl
   iterate 4 refine yF ?_
   iterate 3 refine xB ?_
   iterate 2 refine yF ?_
   iterate 3 refine xB ?_
   refine xB (hs := by (simp (disch := first | omega | (simp only [zL] <;> omega) | (simp only [push_cast] <;> omega) | fail) only [push_cast, reduceCtorEq, Nat.reduceAdd, Nat.reduceSub, Nat.reduceMul, Nat.reduceEqDiff, Nat.reduceLT, Nat.reduceLeDiff, Nat.reduceMod, Nat.reduceDiv, Int.reduceLE, Int.reduceLT, Int.reduceEq, Int.reduceToNat, Int.reduceAdd, Int.reduceSub, Int.reduceMul, Int.reduceNeg, show ¬ ((r.prev.length : Int) = 32) from by rw [p2]; decide] <;> rfl)) ?_
   iterate 7 refine xB ?_
   refine xB (hs := by (simp (disch := first | omega | (simp only [zL] <;> omega) | (simp only [push_cast] <;> omega) | fail) only [push_cast, reduceCtorEq, Nat.reduceAdd, Nat.reduceSub, Nat.reduceMul, Nat.reduceEqDiff, Nat.reduceLT, Nat.reduceLeDiff, Nat.reduceMod, Nat.reduceDiv, Int.reduceLE, Int.reduceLT, Int.reduceEq, Int.reduceToNat, Int.reduceAdd, Int.reduceSub, Int.reduceMul, Int.reduceNeg, p2, beq_self_eq_true] <;> rfl)) ?_
   iterate 2 refine xB ?_
   iterate 2 refine yF ?_
   iterate 8 refine xB ?_
   iterate 2 refine yF ?_
   iterate 3 refine xB ?_
   iterate 2 refine yF ?_
   iterate 3 refine xB ?_
   iterate 2 refine yF ?_
   iterate 7 refine xB ?_
   refine xB (hs := by (simp (disch := first | omega | (simp only [zL] <;> omega) | (simp only [push_cast] <;> omega) | fail) only [push_cast, reduceCtorEq, Nat.reduceAdd, Nat.reduceSub, Nat.reduceMul, Nat.reduceEqDiff, Nat.reduceLT, Nat.reduceLeDiff, Nat.reduceMod, Nat.reduceDiv, Int.reduceLE, Int.reduceLT, Int.reduceEq, Int.reduceToNat, Int.reduceAdd, Int.reduceSub, Int.reduceMul, Int.reduceNeg, t1, beq_self_eq_true] <;> rfl)) ?_
   refine xB ?_
   refine yF ?_
   refine yE (yB (yC (yJ (yL ?_))))
   refine vU (()) (wF ?_) ?_
   ·refine yT ?_ ?_ ?_ <;> simp [rcT, wpT]
   ·trivial
  ·skip
   iterate 4 refine yF ?_
   iterate 3 refine xB ?_
   iterate 2 refine yF ?_
   iterate 3 refine xB ?_
   refine xB (hs := by (simp (disch := first | omega | (simp only [zL] <;> omega) | (simp only [push_cast] <;> omega) | fail) only [push_cast, reduceCtorEq, Nat.reduceAdd, Nat.reduceSub, Nat.reduceMul, Nat.reduceEqDiff, Nat.reduceLT, Nat.reduceLeDiff, Nat.reduceMod, Nat.reduceDiv, Int.reduceLE, Int.reduceLT, Int.reduceEq, Int.reduceToNat, Int.reduceAdd, Int.reduceSub, Int.reduceMul, Int.reduceNeg, show ¬ ((r.prev.length : Int) = 32) from by rw [p2]; decide] <;> rfl)) ?_
   iterate 7 refine xB ?_
   refine xB (hs := by (simp (disch := first | omega | (simp only [zL] <;> omega) | (simp only [push_cast] <;> omega) | fail) only [push_cast, reduceCtorEq, Nat.reduceAdd, Nat.reduceSub, Nat.reduceMul, Nat.reduceEqDiff, Nat.reduceLT, Nat.reduceLeDiff, Nat.reduceMod, Nat.reduceDiv, Int.reduceLE, Int.reduceLT, Int.reduceEq, Int.reduceToNat, Int.reduceAdd, Int.reduceSub, Int.reduceMul, Int.reduceNeg, p2, beq_self_eq_true] <;> rfl)) ?_
   iterate 2 refine xB ?_
   iterate 2 refine yF ?_
   iterate 8 refine xB ?_
   iterate 2 refine yF ?_
   iterate 3 refine xB ?_
   iterate 2 refine yF ?_
   iterate 3 refine xB ?_
   iterate 2 refine yF ?_
   iterate 5 refine xB ?_
   iterate 3 refine wJ ?_
   refine xB ?_
   refine yF ?_
   refine yE (yB (yC (yJ (yL ?_))))
   refine vU (()) (wF ?_) ?_
   ·refine yT ?_ ?_ ?_ <;> simp [rcT, wpT]
   ·trivial
 ·intro _ _
  refine vE ?_
  refine yD (yD (yA rfl ?_))
  refine yF ?_
  refine yE (yB (yC (yH ?_)))
  refine xN (fun sl L (i : Nat) => ⟨setAll (setBad sl [0, 2, 4, 5, 6, 7, 8, 9, 10, 11, 12, 13, 14, 15, 16, 17, 18, 19, 20, 21, 22, 23, 24, 25, 26, 27, 28, 29, 30, 31, 32, 33, 34, 35, 36, 37, 38, 39, 40, 41, 42, 43, 44, 45, 46, 47, 48, 49, 50, 51, 52, 53, 54, 55, 56, 57, 58, 59, 60, 61, 62, 63, 64, 65, 66, 67, 68, 69, 70, 71, 72, 73, 74, 75, 76, 77, 78, 79, 80, 81, 82, 83, 84, 85, 86, 87, 88, 89, 90, 91, 92, 93, 94, 95, 96, 97, 98, 99, 100, 101]) [(3, .t (num i))], Go.Ot.look (L)⟩) (fun i => i ≤ r.wraps.length) (fun i => r.wraps.length - i) (0) (wF ?_) ?_ ?_
  ·refine yT ?_ ?_ ?_ <;> simp [rcT, wpT]
  ·(first | omega | simp)
  ·intro i hi
   refine vE ?_
   refine yD (yD (yA rfl ?_))
   iterate 5 refine yF ?_
   refine yE (yB (yC ?_))
   refine vL (fun hc1 => ?_) (fun hc1 => ?_)
   ·(try simp only [zB] at hc1)
    refine yL (yC (yD (yH (yD (yA rfl ?_)))))
    iterate 5 refine yF ?_
    obtain ⟨e, he⟩ : ∃ e, r.wraps.getD i default = e := ⟨_, rfl⟩
    simp only [he]
    iterate 2 refine yF ?_
    refine yE (yB (yC (yD (yA rfl ?_))))
    have hw := wpOk_iff.1 (qO hm (i := i) (by omega))
    rw [he] at hw
    obtain ⟨g0, g1, g2, g3⟩ := hw
    rcases i with _ | k
    ·skip
     iterate 4 refine yY ?_
     iterate 3 refine vR ?_
     iterate 2 refine yY ?_
     iterate 4 refine vR ?_
     iterate 2 refine yY ?_
     iterate 3 refine vR ?_
     iterate 10 refine yCZ ?_
     refine vR ?_
     refine yY ?_
     refine yE (xO (by kernel_rfl) (yC (yJ (yL (yS (yC (yA rfl ?_)))))))
     iterate 3 refine yF ?_
     refine yE (yB ?_)
     refine xE (0 + 1) (wF ?_) ?_ ?_
     ·refine yT ?_ ?_ ?_ <;> simp [rcT, wpT]
     ·(first | omega | (simp_all <;> omega))
     ·(first | omega | (simp only []; omega))
    ·have g4 := g3 (by omega)
     rw [Nat.add_sub_cancel] at g4
     iterate 4 refine yY ?_
     iterate 3 refine vR ?_
     iterate 2 refine yY ?_
     iterate 4 refine vR ?_
     iterate 2 refine yY ?_
     iterate 6 refine vR ?_
     refine vR (hs := by (simp (disch := first | omega | (simp only [zL] <;> omega) | (simp only [push_cast] <;> omega) | fail) only [push_cast, reduceCtorEq, Nat.reduceAdd, Nat.reduceSub, Nat.reduceMul, Nat.reduceEqDiff, Nat.reduceLT, Nat.reduceLeDiff, Nat.reduceMod, Nat.reduceDiv, Int.reduceLE, Int.reduceLT, Int.reduceEq, Int.reduceToNat, Int.reduceAdd, Int.reduceSub, Int.reduceMul, Int.reduceNeg, show ((k : Int) + 1 - 1) = k from by omega] <;> rfl)) ?_
     iterate 7 refine vR ?_
     refine yY ?_
     refine yE (xO (by kernel_rfl) (yC (yJ (yL (yS (yC (yA rfl ?_)))))))
     iterate 3 refine yF ?_
     refine yE (yB ?_)
     refine xE (k + 1 + 1) (wF ?_) ?_ ?_
     ·refine yT ?_ ?_ ?_ <;> simp [rcT, wpT]
     ·(first | omega | (simp_all <;> omega))
     ·(first | omega | (simp only []; omega))
   ·(try simp only [zB] at hc1)
    refine xQ (yM (yN (yK (yC (yD (yA rfl ?_))))))
    refine yF ?_
    refine yE (yB (yC (yO ?_)))
    refine ⟨.inr rfl, yP [] (by rw [results44]) ?_ ?_ ?_⟩ <;> simp [rcT, wpT]
theorem tY (Γ : Gl) (n : Int) : Go.Ot.Good Γ prog 42 [.t (num n)] [] (wA (.mk 1 n [] [])) [] [] := by
 refine yR F.mix func42 (by rfl) ntmps42 ?_
 refine yD (yA rfl ?_)
 refine yF ?_
 refine yE (yB (yC (yD (yA rfl ?_))))
 iterate 3 refine yF ?_
 refine yE (yB (yC (yO ?_)))
 refine ⟨.inr rfl, yP [] (by rw [results42]) ?_ ?_ ?_⟩ <;> simp [Wr.cellsL_len, wA, Wr.k_mk, Wr.n_mk, Wr.s_mk, Wr.l_mk, Wr.cellsL, Wr.z_eq]
theorem nF (Γ : Gl) (s : List UInt8) : Go.Ot.Good Γ prog 43 [.t (txt s)] [] (wA (.mk 2 0 s [])) [] [] := by
 refine yR F.mix func43 (by rfl) ntmps43 ?_
 refine yD (yA rfl ?_)
 refine yF ?_
 refine yE (yB (yC (yD (yA rfl ?_))))
 iterate 3 refine yF ?_
 refine yE (yB (yC (yO ?_)))
 refine ⟨.inr rfl, yP [] (by rw [results43]) ?_ ?_ ?_⟩ <;> simp [Wr.cellsL_len, wA, Wr.k_mk, Wr.n_mk, Wr.s_mk, Wr.l_mk, Wr.cellsL, Wr.z_eq]
theorem nG (Γ : Gl) (l : List Wr) : Go.Ot.Good Γ prog 41 [wS l] [] (wA (.mk 3 0 [] l)) [] [] := by
 refine yR F.mix func41 (by rfl) ntmps41 ?_
 refine yD (yA rfl ?_)
 refine yF ?_
 refine yE (yB (yC (yD (yA rfl ?_))))
 iterate 3 refine yF ?_
 refine yE (yB (yC (yO ?_)))
 refine ⟨.inr rfl, yP [] (by rw [results41]) ?_ ?_ ?_⟩ <;> simp [Wr.cellsL_len, wA, Wr.k_mk, Wr.n_mk, Wr.s_mk, Wr.l_mk, Wr.cellsL, Wr.z_eq, wS]
theorem yIb (Γ : Gl) (r : Rc) (hp : rcP r) : Go.Ot.Good Γ prog 16 [.agg [.t (num r.seq), .t (txt r.prev), .t (num r.kind), .t (num r.dev), .t (.sl r.wraps.length (r.wraps.flatMap wpT)), .t (txt r.tag)]] [] (.t (txt (rcF r))) [] [] := by
 have hwl := (sQ hp.2.2.2.2.2.2).1
 refine yR F.mix func16 (by rfl) ntmps16 ?_
 refine yD (yA rfl ?_)
 iterate 2 refine yF ?_
 refine yE (yB (yC (yD (yD (yA rfl ?_)))))
 refine yF ?_
 refine yU [] false (yCp Γ r hp) ?_
 refine yF ?_
 refine yE (yB (yC (yJ (yL (yC (yD (yA rfl ?_)))))))
 refine yF ?_
 refine yE (yB (yC (yD (yD (yA rfl ?_)))))
 refine yF ?_
 refine yE (yB (yC (yH ?_)))
 refine xN (fun sl L (i : Nat) => ⟨setAll (setBad sl [0, 5, 6, 7, 8, 9, 10, 11, 12, 13, 14, 15, 16, 17, 18, 19, 20, 21, 22, 23, 24, 25, 26, 27, 28, 29, 30, 31, 32, 33]) [(3, .msl (.n 9) 0 i 4), (4, .t (num i))], Go.Ot.look (vD (.n 9) (lH (wpW (r.wraps.take i))) L)⟩) (fun i => i ≤ r.wraps.length) (fun i => r.wraps.length - i) (0) (wF ?_) ?_ ?_
 ·refine wL [(.r 0 0 0, .r 0 0 0)] ?_ ?_ ?_ <;> simp [Wr.cellsL_len, wA, Wr.k_mk, Wr.n_mk, Wr.s_mk, Wr.l_mk, Wr.cellsL, Wr.z_eq, rcT, wpT, lH, wpW_nil]
 ·(first | omega | simp)
 ·intro i hi
  refine vE ?_
  refine yD (yD (yA rfl ?_))
  iterate 5 refine yF ?_
  refine yE (yB (yC ?_))
  refine vL (fun hc1 => ?_) (fun hc1 => ?_)
  ·(try simp only [zB] at hc1)
   refine yL (yC (yD (yH ?_)))
   refine tD (.n 9) [3, 15] [] rfl ?_
   iterate 7 refine nK ?_
   refine vB [] [] [] false (tY Γ (r.wraps.getD i default).dev) ?_
   iterate 6 refine nK ?_
   refine vB [] [] [] false (nF Γ (r.wraps.getD i default).box) ?_
   refine nK ?_
   refine vB [] [.r 7 15 0] [] true (nG Γ [.mk 1 (r.wraps.getD i default).dev [] [], .mk 2 0 (r.wraps.getD i default).box []]) ?_
   iterate 3 refine nK ?_
   refine kK ⟨yC4 (by kernel_rfl) (by kernel_rfl), ?_⟩
   refine yS (yC (yA rfl ?_))
   iterate 3 refine yF ?_
   refine yE (yB ?_)
   have hil : i < r.wraps.length := by omega
   have hnx := yA5 hil
   refine xE (i + 1) (wF ?_) ?_ ?_
   ·refine wL [(.r 0 0 0, .r 0 0 0), (.n 9, .n 9)] ?_ ?_ ?_ <;> simp [Wr.cellsL_len, wA, Wr.k_mk, Wr.n_mk, Wr.s_mk, Wr.l_mk, Wr.cellsL, Wr.z_eq, rcT, wpT, lH, hnx, uZ, wC, Wr.cells]
   ·(first | omega | (simp_all <;> omega))
   ·(first | omega | (simp only []; omega))
  ·(try simp only [zB] at hc1)
   refine xQ (yM (yN (yK (yC (yD (yA rfl ?_))))))
   have hil : i = r.wraps.length := by omega
   subst hil
   simp only [List.take_length]
   iterate 2 refine yY ?_
   refine yZ [] false (tY Γ r.seq) ?_
   iterate 2 refine yY ?_
   refine yZ [] false (nF Γ r.prev) ?_
   iterate 2 refine yY ?_
   refine yZ [] false (tY Γ r.kind) ?_
   iterate 2 refine yY ?_
   refine yZ [] false (tY Γ r.dev) ?_
   refine yY ?_
   refine yZ [.n 9] true (nG Γ (wpW r.wraps)) ?_ (hv := by (simp (disch := first | omega | (simp only [zL] <;> omega) | fail) [-List.map_map, -List.map_drop, -List.map_take, VwL_cons, xM, xY, vN, xV, xW, xU, Vw_agg, xS, xX, xA, VwL_refl_map, yX, xK, xL, wK, xJ, yW, xC, yV, VwTs_app, List.take_of_length_le, srcL, notIn, ObsVw, SrcOk, pOk, Go.Ot.look, resP, resN, ev, evc, mkS, push_cast, List.take_of_length_le, eN, jC] <;> (try omega)))
   iterate 2 refine yY ?_
   refine yZ [] false (nF Γ r.tag) ?_
   refine yY ?_
   refine yZ [.r 8 17 0] true (nG Γ [.mk 1 r.seq [] [], .mk 2 0 r.prev [], .mk 1 r.kind [] [], .mk 1 r.dev [] [], .mk 3 0 [] (wpW r.wraps), .mk 2 0 r.tag []]) ?_
   refine yZ [] false (lA Γ (.mk 3 0 [] [.mk 1 r.seq [] [], .mk 2 0 r.prev [], .mk 1 r.kind [] [], .mk 1 r.dev [] [], .mk 3 0 [] (wpW r.wraps), .mk 2 0 r.tag []]) (by simp [Wr.szL, Wr.sz, szL_wpW]; omega) (fun _ => Nat.le_trans (show (putW 6 (rcW r)).length ≤ 2000 from dI hp) (by omega))) ?_
   refine yY ?_
   refine yE (xO (by kernel_rfl) (yC (yO ?_)))
   refine ⟨.inr rfl, yP [] (by rw [results16]) ?_ ?_ ?_⟩ <;> simp [rcT, wpT, yDC hp, rcW]
theorem yEn (Γ : Gl) (r : Rc) (hp : rcP r) : Go.Ot.Good Γ prog 78 [.agg [.t (num r.seq), .t (txt r.prev), .t (num r.kind), .t (num r.dev), .t (.sl r.wraps.length (r.wraps.flatMap wpT)), .t (txt r.tag)]] [] (.t (txt (hsh r))) [] [] := by
 have hrl := nQ r
 refine yR F.mix func78 (by rfl) ntmps78 ?_
 refine yD (yA rfl ?_)
 iterate 2 refine yF ?_
 refine yE (yB (yC (yD (yA rfl ?_))))
 refine yF ?_
 refine yU [] false (yIb Γ r hp) ?_
 refine yU [] false (pY Γ (rcF r) (by omega)) ?_
 refine yF ?_
 refine yE (yB (yC (yO ?_)))
 refine ⟨.inr rfl, yP [] (by rw [results78]) ?_ ?_ ?_⟩ <;> simp [rcT, wpT, hsh]
theorem yIX (Γ : Gl) (r : Rc) (hp : rcP r) : Go.Ot.Good Γ prog 83 [.agg [.t (num r.seq), .t (txt r.prev), .t (num r.kind), .t (num r.dev), .t (.sl r.wraps.length (r.wraps.flatMap wpT)), .t (txt r.tag)]] [] (.t (txt (hdF r))) [] [] := by
 refine yR F.mix func83 (by rfl) ntmps83 ?_
 refine yD (yA rfl ?_)
 iterate 2 refine yF ?_
 refine yE (yB (yC (yD (yD (yA rfl ?_)))))
 refine yF ?_
 refine yU [] false (yCp Γ r hp) ?_
 refine yF ?_
 refine yE (yB (yC (yJ (yL (yC (yD (yA rfl ?_)))))))
 iterate 2 refine yY ?_
 refine yZ [] false (tY Γ r.seq) ?_
 iterate 2 refine yY ?_
 refine yZ [] false (tY Γ r.kind) ?_
 iterate 2 refine yY ?_
 refine yZ [] false (tY Γ r.dev) ?_
 iterate 2 refine yY ?_
 refine yZ [] false (nF Γ r.prev) ?_
 refine yY ?_
 refine yZ [.r 3 12 0] true (nG Γ [.mk 1 r.seq [] [], .mk 1 r.kind [] [], .mk 1 r.dev [] [], .mk 2 0 r.prev []]) ?_
 refine yZ [] false (lA Γ (.mk 3 0 [] [.mk 1 r.seq [] [], .mk 1 r.kind [] [], .mk 1 r.dev [] [], .mk 2 0 r.prev []]) (by simp [Wr.szL, Wr.sz]) (fun _ => Nat.le_trans (show (putW 6 (hdW r)).length ≤ 2000 from yBP hp) (by omega))) ?_
 refine yY ?_
 refine yE (xO (by kernel_rfl) (yC (yO ?_)))
 refine ⟨.inr rfl, yP [] (by rw [results83]) ?_ ?_ ?_⟩ <;> simp [rcT, wpT, hdW, hdF_t hp]
theorem tagRP (Γ : Gl) (key : List UInt8) (hk : key.length ≤ 1000) (q : Int) (p : List UInt8) (k d : Int) (w : List Wp) (hp : rcP ⟨q, p, k, d, w, []⟩) : Go.Ot.Good Γ prog 85 [.t (txt key), .agg [.t (num q), .t (txt p), .t (num k), .t (num d), .t (.sl w.length (w.flatMap wpT)), .t (txt [])]] [] (.t (txt ((Cy.hmacB key (rcF ⟨q, p, k, d, w, []⟩)).take 16))) [] [] := by
 have hrl := nQ (⟨q, p, k, d, w, []⟩ : Rc)
 have hml := Cy.hmacB_len key (rcF (⟨q, p, k, d, w, []⟩ : Rc))
 refine yR F.mix func85 (by rfl) ntmps85 ?_
 refine yD (yA rfl ?_)
 iterate 2 refine yF ?_
 refine yE (yB (yC (yD (yD (yA rfl ?_)))))
 refine yF ?_
 refine yU [] false (yCp Γ (⟨q, p, k, d, w, []⟩ : Rc) hp) ?_
 refine yF ?_
 refine yE (yB (yC (yJ (yL (yC (yD (yA rfl ?_)))))))
 iterate 2 refine yF ?_
 refine yE (yB (yC (yD (yA rfl ?_))))
 iterate 2 refine yF ?_
 refine yU [] false (yIb Γ (⟨q, p, k, d, w, []⟩ : Rc) hp) ?_
 refine yU [] false (Cy.refmac_good Γ key (rcF (⟨q, p, k, d, w, []⟩ : Rc)) (by omega) (by omega)) ?_
 iterate 2 refine yF ?_
 refine yE (yB (yC (yO ?_)))
 refine ⟨.inr rfl, yP [] (by rw [results85]) ?_ ?_ ?_⟩ <;> simp [rcT, wpT]
end Go.Proofs.Tryz

namespace Go.Proofs.Tryz
open Go Go.Ot
attribute [local simp] num bol txt w8 w16 w32 w64 lst cls xZ xR List.take_of_length_le
attribute [local irreducible] wpK wpS uE wH wV wN wZ xD Le rdS lpW rdW got tB mayW uW putW nb u64 qB mwB sha rcF hdF hsh RG inF chC fl lkT wpW Cy.hmacB inR inB ckB vG
theorem yEU (Γ : Gl) (log : List Rc) (hck : ckB log = true) : Go.Ot.Good Γ prog 77 [.t (.sl log.length (log.flatMap rcT))] [] (.t (bol true)) [] [] := by
 have h40 := (uJ hck).1
 refine yR F.mix func77 (by rfl) ntmps77 ?_
 refine yD (yA rfl ?_)
 refine yF ?_
 refine yE (yB (yC (yD (yD (yA rfl ?_)))))
 iterate 3 refine yF ?_
 refine yE (yB (yC (yJ (yL (yC (yD (yA rfl ?_)))))))
 refine yF ?_
 refine yE (yB (yC (yD (yD (yA rfl ?_)))))
 refine yF ?_
 refine yE (yB (yC (yH ?_)))
 refine xN (fun sl L (i : Nat) => ⟨setAll (setBad sl [2, 5, 6, 7, 8, 9, 10, 11, 12, 13, 14, 15, 16, 17, 18, 19, 20, 21, 22, 23, 24, 25, 26, 27, 28, 29, 30, 31, 32, 33, 34, 35, 36, 37, 38, 39, 40, 41, 42, 43, 44, 45, 46, 47, 48, 49, 50, 51, 52, 53, 54, 55, 56, 57, 58, 59, 60, 61, 62, 63, 64, 65, 66, 67, 68, 69, 70, 71, 72, 73, 74, 75, 76, 77, 78]) [(3, .t (txt (vG log i))), (4, .t (num i))], Go.Ot.look (L)⟩) (fun i => i ≤ log.length) (fun i => log.length - i) (0) (wF ?_) ?_ ?_
 ·refine yT ?_ ?_ ?_ <;> simp [rcT, wpT, vG]
 ·(first | omega | simp)
 ·intro i hi
  refine vE ?_
  refine yD (yD (yA rfl ?_))
  iterate 4 refine yF ?_
  refine yE (yB (yC ?_))
  refine vL (fun hc1 => ?_) (fun hc1 => ?_)
  ·(try simp only [zB] at hc1)
   refine yL (yC (yD (yH (yD (yA rfl ?_)))))
   iterate 4 refine yF ?_
   obtain ⟨r, he⟩ : ∃ r, log.getD i default = r := ⟨_, rfl⟩
   simp only [he]
   iterate 2 refine yF ?_
   refine yE (yB (yC (yD (yD (yA rfl ?_)))))
   have hr' : i < log.length := by omega
   have hok := kD ((uJ hck).2 i hr')
   rw [he] at hok
   obtain ⟨g1, ⟨g2, g3'⟩, hno⟩ := hok
   have g3 : (r.prev == vG log i) = true := by rw [g3']; exact beq_self_eq_true _
   have hcn : (inF log i).contains r.dev = decide (r.kind = 2) := Classical.byContradiction (fun h => hno (.inr (.inr h)))
   have hpn := yIy he
   rcases (show (i = 0 ∧ r.kind = 1 ∧ r.dev = 0) ∨ (i ≠ 0 ∧ r.kind = 1) ∨ (i ≠ 0 ∧ r.kind = 2 ∧ r.dev ≠ 0) from by
    have h1 := g1.2.2.2.1
    have h2 : ¬ (i = 0 ∧ (r.kind ≠ 1 ∨ r.dev ≠ 0)) := fun h => hno (.inl h)
    have h3 : ¬ (r.kind = 2 ∧ r.dev = 0) := fun h => hno (.inr (.inl h))
    rcases h1 with h1 | h1 <;> omega) with ⟨g4, g5, g6⟩ | ⟨g4, g5⟩ | ⟨g4, g5, g6⟩
   ·have hin : inB (log.take i) i r.dev = false := by
     rw [yBO (by omega) (fun j hj => (uJ hck).2 j (by omega)) g1.2.2.2.2.1, hcn, g5]; decide
    refine yF ?_
    refine yU [] false (yCp Γ r g1) ?_
    iterate 2 refine yF ?_
    iterate 5 refine xB ?_
    iterate 2 refine yF ?_
    iterate 3 refine xB ?_
    refine xB (hs := by (simp (disch := first | omega | (simp only [zL] <;> omega) | (simp only [push_cast] <;> omega) | fail) only [push_cast, reduceCtorEq, Nat.reduceAdd, Nat.reduceSub, Nat.reduceMul, Nat.reduceEqDiff, Nat.reduceLT, Nat.reduceLeDiff, Nat.reduceMod, Nat.reduceDiv, Int.reduceLE, Int.reduceLT, Int.reduceEq, Int.reduceToNat, Int.reduceAdd, Int.reduceSub, Int.reduceMul, Int.reduceNeg, g3] <;> rfl)) ?_
    iterate 2 refine yF ?_
    iterate 12 refine xB ?_
    refine yF ?_
    refine yE (yB (yC (yJ (yL (yC (yD (yA rfl ?_)))))))
    have htk := dH (log := log) (i := i) (by omega)
    have hlt : (log.take i).length = i := by rw [List.length_take]; omega
    iterate 6 refine yY ?_
    refine yZ [] false ((by have h := uQ Γ (log.take i) i r.dev (by omega); rw [hin] at h; exact h)) ?_ (hv := by (simp (disch := first | omega | (simp only [zL] <;> omega) | fail) [-List.map_map, -List.map_drop, -List.map_take, VwL_cons, xM, xY, vN, xV, xW, xU, Vw_agg, xS, xX, xA, VwL_refl_map, yX, xK, xL, wK, xJ, yW, xC, yV, VwTs_app, List.take_of_length_le, srcL, notIn, ObsVw, SrcOk, pOk, Go.Ot.look, resP, resN, ev, evc, mkS, push_cast, List.take_of_length_le, htk, hlt, -List.length_flatMap] <;> (try omega)))
    refine yY ?_
    refine yE (xO (by kernel_rfl) (yC (yD (yD (yA rfl ?_)))))
    iterate 4 refine yF ?_
    refine xB ?_
    iterate 2 refine yF ?_
    iterate 4 refine xB ?_
    iterate 7 refine wJ ?_
    refine xB ?_
    refine yF ?_
    refine yE (yB (yC (yJ (yL (yC (yA rfl ?_))))))
    refine yF ?_
    refine yU [] false (yEn Γ r g1) ?_
    refine yF ?_
    refine yE (yB (yS (yC (yA rfl ?_))))
    iterate 3 refine yF ?_
    refine yE (yB ?_)
    refine xE (i + 1) (wF ?_) ?_ ?_
    ·refine yT ?_ ?_ ?_ <;> simp [rcT, wpT, hpn]
    ·(first | omega | (simp_all <;> omega))
    ·(first | omega | (simp only []; omega))
   ·have hin : inB (log.take i) i r.dev = false := by
     rw [yBO (by omega) (fun j hj => (uJ hck).2 j (by omega)) g1.2.2.2.2.1, hcn, g5]; decide
    refine yF ?_
    refine yU [] false (yCp Γ r g1) ?_
    iterate 2 refine yF ?_
    iterate 5 refine xB ?_
    iterate 2 refine yF ?_
    iterate 3 refine xB ?_
    refine xB (hs := by (simp (disch := first | omega | (simp only [zL] <;> omega) | (simp only [push_cast] <;> omega) | fail) only [push_cast, reduceCtorEq, Nat.reduceAdd, Nat.reduceSub, Nat.reduceMul, Nat.reduceEqDiff, Nat.reduceLT, Nat.reduceLeDiff, Nat.reduceMod, Nat.reduceDiv, Int.reduceLE, Int.reduceLT, Int.reduceEq, Int.reduceToNat, Int.reduceAdd, Int.reduceSub, Int.reduceMul, Int.reduceNeg, g3] <;> rfl)) ?_
    iterate 2 refine yF ?_
    iterate 3 refine xB ?_
    iterate 8 refine wJ ?_
    refine xB ?_
    refine yF ?_
    refine yE (yB (yC (yJ (yL (yC (yD (yA rfl ?_)))))))
    have htk := dH (log := log) (i := i) (by omega)
    have hlt : (log.take i).length = i := by rw [List.length_take]; omega
    iterate 6 refine yY ?_
    refine yZ [] false ((by have h := uQ Γ (log.take i) i r.dev (by omega); rw [hin] at h; exact h)) ?_ (hv := by (simp (disch := first | omega | (simp only [zL] <;> omega) | fail) [-List.map_map, -List.map_drop, -List.map_take, VwL_cons, xM, xY, vN, xV, xW, xU, Vw_agg, xS, xX, xA, VwL_refl_map, yX, xK, xL, wK, xJ, yW, xC, yV, VwTs_app, List.take_of_length_le, srcL, notIn, ObsVw, SrcOk, pOk, Go.Ot.look, resP, resN, ev, evc, mkS, push_cast, List.take_of_length_le, htk, hlt, -List.length_flatMap] <;> (try omega)))
    refine yY ?_
    refine yE (xO (by kernel_rfl) (yC (yD (yD (yA rfl ?_)))))
    iterate 4 refine yF ?_
    refine xB ?_
    iterate 2 refine yF ?_
    iterate 4 refine xB ?_
    iterate 7 refine wJ ?_
    refine xB ?_
    refine yF ?_
    refine yE (yB (yC (yJ (yL (yC (yA rfl ?_))))))
    refine yF ?_
    refine yU [] false (yEn Γ r g1) ?_
    refine yF ?_
    refine yE (yB (yS (yC (yA rfl ?_))))
    iterate 3 refine yF ?_
    refine yE (yB ?_)
    refine xE (i + 1) (wF ?_) ?_ ?_
    ·refine yT ?_ ?_ ?_ <;> simp [rcT, wpT, hpn]
    ·(first | omega | (simp_all <;> omega))
    ·(first | omega | (simp only []; omega))
   ·have hin : inB (log.take i) i r.dev = true := by
     rw [yBO (by omega) (fun j hj => (uJ hck).2 j (by omega)) g1.2.2.2.2.1, hcn, g5]; decide
    refine yF ?_
    refine yU [] false (yCp Γ r g1) ?_
    iterate 2 refine yF ?_
    iterate 5 refine xB ?_
    iterate 2 refine yF ?_
    iterate 3 refine xB ?_
    refine xB (hs := by (simp (disch := first | omega | (simp only [zL] <;> omega) | (simp only [push_cast] <;> omega) | fail) only [push_cast, reduceCtorEq, Nat.reduceAdd, Nat.reduceSub, Nat.reduceMul, Nat.reduceEqDiff, Nat.reduceLT, Nat.reduceLeDiff, Nat.reduceMod, Nat.reduceDiv, Int.reduceLE, Int.reduceLT, Int.reduceEq, Int.reduceToNat, Int.reduceAdd, Int.reduceSub, Int.reduceMul, Int.reduceNeg, g3] <;> rfl)) ?_
    iterate 2 refine yF ?_
    iterate 3 refine xB ?_
    iterate 8 refine wJ ?_
    refine xB ?_
    refine yF ?_
    refine yE (yB (yC (yJ (yL (yC (yD (yA rfl ?_)))))))
    have htk := dH (log := log) (i := i) (by omega)
    have hlt : (log.take i).length = i := by rw [List.length_take]; omega
    iterate 6 refine yY ?_
    refine yZ [] false ((by have h := uQ Γ (log.take i) i r.dev (by omega); rw [hin] at h; exact h)) ?_ (hv := by (simp (disch := first | omega | (simp only [zL] <;> omega) | fail) [-List.map_map, -List.map_drop, -List.map_take, VwL_cons, xM, xY, vN, xV, xW, xU, Vw_agg, xS, xX, xA, VwL_refl_map, yX, xK, xL, wK, xJ, yW, xC, yV, VwTs_app, List.take_of_length_le, srcL, notIn, ObsVw, SrcOk, pOk, Go.Ot.look, resP, resN, ev, evc, mkS, push_cast, List.take_of_length_le, htk, hlt, -List.length_flatMap] <;> (try omega)))
    refine yY ?_
    refine yE (xO (by kernel_rfl) (yC (yD (yD (yA rfl ?_)))))
    iterate 4 refine yF ?_
    refine wJ ?_
    iterate 2 refine yF ?_
    iterate 12 refine xB ?_
    refine yF ?_
    refine yE (yB (yC (yJ (yL (yC (yA rfl ?_))))))
    refine yF ?_
    refine yU [] false (yEn Γ r g1) ?_
    refine yF ?_
    refine yE (yB (yS (yC (yA rfl ?_))))
    iterate 3 refine yF ?_
    refine yE (yB ?_)
    refine xE (i + 1) (wF ?_) ?_ ?_
    ·refine yT ?_ ?_ ?_ <;> simp [rcT, wpT, hpn]
    ·(first | omega | (simp_all <;> omega))
    ·(first | omega | (simp only []; omega))
  ·(try simp only [zB] at hc1)
   refine xQ (yM (yN (yK (yC (yD (yA rfl ?_))))))
   refine yF ?_
   refine yE (yB (yC (yO ?_)))
   refine ⟨.inr rfl, yP [] (by rw [results77]) ?_ ?_ ?_⟩ <;> simp [rcT, wpT]
end Go.Proofs.Tryz
