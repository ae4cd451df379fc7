/- Contracts of this program's functions. -/
import Derived.Test.YtkbikblijipceaaGreatDoorSMF2
import Derived.Test.YtkbikblijipceaaGreatDoorSCH1
import Derived.Test.YtkbikblijipceaaGreatDoorSJ
import Derived.Test.YtkbikblijipceaaGreatDoorSU1
set_option maxHeartbeats 4000000
set_option maxRecDepth 100000
set_option linter.unusedVariables false
set_option linter.unusedSimpArgs false
namespace Go.Proofs.Tryz
open Go Go.Ot
attribute [local simp] num bol txt w8 w16 w32 w64 lst cls wE xZ List.take_of_length_le
attribute [local irreducible] wpK wpS uI wH wW wM vC xB Le rdS lpW rdW got tB mayW uZ putW nb u64 qV mwB sha rcF hdF hsh RG inF chC fl lkT wpW Cy.hmacB
theorem yB3 (Γ : Gl) (r : Rc) (hp : rcP r) : Go.Ot.Good Γ prog 44 [.agg [.t (num r.seq), .t (txt r.prev), .t (num r.kind), .t (num r.dev), .t (.sl r.wraps.length (r.wraps.flatMap wpT)), .t (txt r.tag)]] [] (.t (bol true)) [] [] := by
 obtain ⟨hs, hs2, hP, hK, hd, hT, hm⟩ := hp
 have hwl := (sR hm).1
 refine yR F.mix func44 (by rfl) ntmps44 ?_
 refine yD (yA rfl ?_)
 iterate 2 refine yF ?_
 refine yE (yB (yC ?_))
 refine jS (fun sl L (_u : Unit) => ⟨setAll (setBad sl [0, 2, 5, 6, 7, 8, 9, 10, 11, 12, 13, 14, 15, 16, 17, 18, 19, 20, 21, 22, 23, 24, 25, 26, 27, 28, 29, 30, 31, 32, 33, 34, 35, 36, 37, 38, 39, 40, 41, 42, 43, 44, 45, 46, 47, 48, 49, 50, 51, 52, 53, 54, 55, 56, 57, 58, 59]) [], Go.Ot.look (L)⟩) (fun _ => True) ?_ ?_
 ·skip
  refine yD (yA rfl ?_)
  rcases hP with p1 | ⟨p1, p2⟩ <;> rcases hK with k1 | k1 <;> rcases hT with t1 | t1
  ·have t2 : r.tag.length = 0 := by rw [t1]; rfl
   iterate 4 refine yF ?_
   iterate 3 refine yX ?_
   iterate 2 refine yF ?_
   iterate 5 refine yX ?_
   iterate 8 refine wG ?_
   refine yX ?_
   iterate 2 refine yF ?_
   iterate 4 refine yX ?_
   iterate 3 refine wG ?_
   refine yX ?_
   iterate 2 refine yF ?_
   iterate 3 refine yX ?_
   iterate 2 refine yF ?_
   iterate 3 refine yX ?_
   iterate 2 refine yF ?_
   iterate 7 refine yX ?_
   refine yX (hs := by (simp (disch := first | omega | (simp only [List.length_drop, List.length_take, List.length_map, List.length_append, List.length_cons, List.length_nil, List.length_replicate, List.length_set] <;> omega) | (simp only [push_cast] <;> omega) | fail) only [push_cast, reduceCtorEq, Nat.reduceAdd, Nat.reduceSub, Nat.reduceMul, Nat.reduceEqDiff, Nat.reduceLT, Nat.reduceLeDiff, Nat.reduceMod, Nat.reduceDiv, Int.reduceLE, Int.reduceLT, Int.reduceEq, Int.reduceToNat, Int.reduceAdd, Int.reduceSub, Int.reduceMul, Int.reduceNeg, t1, beq_self_eq_true] <;> rfl)) ?_
   refine yX ?_
   refine yF ?_
   refine yE (yB (yC (yJ (yK ?_))))
   refine vE (()) (wF ?_) ?_
   ·refine yT ?_ ?_ ?_ <;> simp [rcT, wpT]
   ·trivial
  ·skip
   iterate 4 refine yF ?_
   iterate 3 refine yX ?_
   iterate 2 refine yF ?_
   iterate 5 refine yX ?_
   iterate 8 refine wG ?_
   refine yX ?_
   iterate 2 refine yF ?_
   iterate 4 refine yX ?_
   iterate 3 refine wG ?_
   refine yX ?_
   iterate 2 refine yF ?_
   iterate 3 refine yX ?_
   iterate 2 refine yF ?_
   iterate 3 refine yX ?_
   iterate 2 refine yF ?_
   iterate 5 refine yX ?_
   iterate 3 refine wG ?_
   refine yX ?_
   refine yF ?_
   refine yE (yB (yC (yJ (yK ?_))))
   refine vE (()) (wF ?_) ?_
   ·refine yT ?_ ?_ ?_ <;> simp [rcT, wpT]
   ·trivial
  ·have t2 : r.tag.length = 0 := by rw [t1]; rfl
   iterate 4 refine yF ?_
   iterate 3 refine yX ?_
   iterate 2 refine yF ?_
   iterate 5 refine yX ?_
   iterate 8 refine wG ?_
   refine yX ?_
   iterate 2 refine yF ?_
   iterate 8 refine yX ?_
   iterate 2 refine yF ?_
   iterate 3 refine yX ?_
   iterate 2 refine yF ?_
   iterate 3 refine yX ?_
   iterate 2 refine yF ?_
   iterate 7 refine yX ?_
   refine yX (hs := by (simp (disch := first | omega | (simp only [List.length_drop, List.length_take, List.length_map, List.length_append, List.length_cons, List.length_nil, List.length_replicate, List.length_set] <;> omega) | (simp only [push_cast] <;> omega) | fail) only [push_cast, reduceCtorEq, Nat.reduceAdd, Nat.reduceSub, Nat.reduceMul, Nat.reduceEqDiff, Nat.reduceLT, Nat.reduceLeDiff, Nat.reduceMod, Nat.reduceDiv, Int.reduceLE, Int.reduceLT, Int.reduceEq, Int.reduceToNat, Int.reduceAdd, Int.reduceSub, Int.reduceMul, Int.reduceNeg, t1, beq_self_eq_true] <;> rfl)) ?_
   refine yX ?_
   refine yF ?_
   refine yE (yB (yC (yJ (yK ?_))))
   refine vE (()) (wF ?_) ?_
   ·refine yT ?_ ?_ ?_ <;> simp [rcT, wpT]
   ·trivial
  ·skip
   iterate 4 refine yF ?_
   iterate 3 refine yX ?_
   iterate 2 refine yF ?_
   iterate 5 refine yX ?_
   iterate 8 refine wG ?_
   refine yX ?_
   iterate 2 refine yF ?_
   iterate 8 refine yX ?_
   iterate 2 refine yF ?_
   iterate 3 refine yX ?_
   iterate 2 refine yF ?_
   iterate 3 refine yX ?_
   iterate 2 refine yF ?_
   iterate 5 refine yX ?_
   iterate 3 refine wG ?_
   refine yX ?_
   refine yF ?_
   refine yE (yB (yC (yJ (yK ?_))))
   refine vE (()) (wF ?_) ?_
   ·refine yT ?_ ?_ ?_ <;> simp [rcT, wpT]
   ·trivial
  ·have t2 : r.tag.length = 0 := by rw [t1]; rfl
   iterate 4 refine yF ?_
   iterate 3 refine yX ?_
   iterate 2 refine yF ?_
   iterate 3 refine yX ?_
   refine yX (hs := by (simp (disch := first | omega | (simp only [List.length_drop, List.length_take, List.length_map, List.length_append, List.length_cons, List.length_nil, List.length_replicate, List.length_set] <;> omega) | (simp only [push_cast] <;> omega) | fail) only [push_cast, reduceCtorEq, Nat.reduceAdd, Nat.reduceSub, Nat.reduceMul, Nat.reduceEqDiff, Nat.reduceLT, Nat.reduceLeDiff, Nat.reduceMod, Nat.reduceDiv, Int.reduceLE, Int.reduceLT, Int.reduceEq, Int.reduceToNat, Int.reduceAdd, Int.reduceSub, Int.reduceMul, Int.reduceNeg, show ¬ ((r.prev.length : Int) = 32) from by rw [p2]; decide] <;> rfl)) ?_
   iterate 7 refine yX ?_
   refine yX (hs := by (simp (disch := first | omega | (simp only [List.length_drop, List.length_take, List.length_map, List.length_append, List.length_cons, List.length_nil, List.length_replicate, List.length_set] <;> omega) | (simp only [push_cast] <;> omega) | fail) only [push_cast, reduceCtorEq, Nat.reduceAdd, Nat.reduceSub, Nat.reduceMul, Nat.reduceEqDiff, Nat.reduceLT, Nat.reduceLeDiff, Nat.reduceMod, Nat.reduceDiv, Int.reduceLE, Int.reduceLT, Int.reduceEq, Int.reduceToNat, Int.reduceAdd, Int.reduceSub, Int.reduceMul, Int.reduceNeg, p2, beq_self_eq_true] <;> rfl)) ?_
   iterate 2 refine yX ?_
   iterate 2 refine yF ?_
   iterate 4 refine yX ?_
   iterate 3 refine wG ?_
   refine yX ?_
   iterate 2 refine yF ?_
   iterate 3 refine yX ?_
   iterate 2 refine yF ?_
   iterate 3 refine yX ?_
   iterate 2 refine yF ?_
   iterate 7 refine yX ?_
   refine yX (hs := by (simp (disch := first | omega | (simp only [List.length_drop, List.length_take, List.length_map, List.length_append, List.length_cons, List.length_nil, List.length_replicate, List.length_set] <;> omega) | (simp only [push_cast] <;> omega) | fail) only [push_cast, reduceCtorEq, Nat.reduceAdd, Nat.reduceSub, Nat.reduceMul, Nat.reduceEqDiff, Nat.reduceLT, Nat.reduceLeDiff, Nat.reduceMod, Nat.reduceDiv, Int.reduceLE, Int.reduceLT, Int.reduceEq, Int.reduceToNat, Int.reduceAdd, Int.reduceSub, Int.reduceMul, Int.reduceNeg, t1, beq_self_eq_true] <;> rfl)) ?_
   refine yX ?_
   refine yF ?_
   refine yE (yB (yC (yJ (yK ?_))))
   refine vE (()) (wF ?_) ?_
   ·refine yT ?_ ?_ ?_ <;> simp [rcT, wpT]
   ·trivial
  ·skip
   iterate 4 refine yF ?_
   iterate 3 refine yX ?_
   iterate 2 refine yF ?_
   iterate 3 refine yX ?_
   refine yX (hs := by (simp (disch := first | omega | (simp only [List.length_drop, List.length_take, List.length_map, List.length_append, List.length_cons, List.length_nil, List.length_replicate, List.length_set] <;> omega) | (simp only [push_cast] <;> omega) | fail) only [push_cast, reduceCtorEq, Nat.reduceAdd, Nat.reduceSub, Nat.reduceMul, Nat.reduceEqDiff, Nat.reduceLT, Nat.reduceLeDiff, Nat.reduceMod, Nat.reduceDiv, Int.reduceLE, Int.reduceLT, Int.reduceEq, Int.reduceToNat, Int.reduceAdd, Int.reduceSub, Int.reduceMul, Int.reduceNeg, show ¬ ((r.prev.length : Int) = 32) from by rw [p2]; decide] <;> rfl)) ?_
   iterate 7 refine yX ?_
   refine yX (hs := by (simp (disch := first | omega | (simp only [List.length_drop, List.length_take, List.length_map, List.length_append, List.length_cons, List.length_nil, List.length_replicate, List.length_set] <;> omega) | (simp only [push_cast] <;> omega) | fail) only [push_cast, reduceCtorEq, Nat.reduceAdd, Nat.reduceSub, Nat.reduceMul, Nat.reduceEqDiff, Nat.reduceLT, Nat.reduceLeDiff, Nat.reduceMod, Nat.reduceDiv, Int.reduceLE, Int.reduceLT, Int.reduceEq, Int.reduceToNat, Int.reduceAdd, Int.reduceSub, Int.reduceMul, Int.reduceNeg, p2, beq_self_eq_true] <;> rfl)) ?_
   iterate 2 refine yX ?_
   iterate 2 refine yF ?_
   iterate 4 refine yX ?_
   iterate 3 refine wG ?_
   refine yX ?_
   iterate 2 refine yF ?_
   iterate 3 refine yX ?_
   iterate 2 refine yF ?_
   iterate 3 refine yX ?_
   iterate 2 refine yF ?_
   iterate 5 refine yX ?_
   iterate 3 refine wG ?_
   refine yX ?_
   refine yF ?_
   refine yE (yB (yC (yJ (yK ?_))))
   refine vE (()) (wF ?_) ?_
   ·refine yT ?_ ?_ ?_ <;> simp [rcT, wpT]
   ·trivial
  ·have t2 : r.tag.length = 0 := by rw [t1]; rfl
   iterate 4 refine yF ?_
   iterate 3 refine yX ?_
   iterate 2 refine yF ?_
   iterate 3 refine yX ?_
   refine yX (hs := by (simp (disch := first | omega | (simp only [List.length_drop, List.length_take, List.length_map, List.length_append, List.length_cons, List.length_nil, List.length_replicate, List.length_set] <;> omega) | (simp only [push_cast] <;> omega) | fail) only [push_cast, reduceCtorEq, Nat.reduceAdd, Nat.reduceSub, Nat.reduceMul, Nat.reduceEqDiff, Nat.reduceLT, Nat.reduceLeDiff, Nat.reduceMod, Nat.reduceDiv, Int.reduceLE, Int.reduceLT, Int.reduceEq, Int.reduceToNat, Int.reduceAdd, Int.reduceSub, Int.reduceMul, Int.reduceNeg, show ¬ ((r.prev.length : Int) = 32) from by rw [p2]; decide] <;> rfl)) ?_
   iterate 7 refine yX ?_
   refine yX (hs := by (simp (disch := first | omega | (simp only [List.length_drop, List.length_take, List.length_map, List.length_append, List.length_cons, List.length_nil, List.length_replicate, List.length_set] <;> omega) | (simp only [push_cast] <;> omega) | fail) only [push_cast, reduceCtorEq, Nat.reduceAdd, Nat.reduceSub, Nat.reduceMul, Nat.reduceEqDiff, Nat.reduceLT, Nat.reduceLeDiff, Nat.reduceMod, Nat.reduceDiv, Int.reduceLE, Int.reduceLT, Int.reduceEq, Int.reduceToNat, Int.reduceAdd, Int.reduceSub, Int.reduceMul, Int.reduceNeg, p2, beq_self_eq_true] <;> rfl)) ?_
   iterate 2 refine yX ?_
   iterate 2 refine yF ?_
   iterate 8 refine yX ?_
   iterate 2 refine yF ?_
   iterate 3 refine yX ?_
   iterate 2 refine yF ?_
   iterate 3 refine yX ?_
   iterate 2 refine yF ?_
   iterate 7 refine yX ?_
   refine yX (hs := by (simp (disch := first | omega | (simp only [List.length_drop, List.length_take, List.length_map, List.length_append, List.length_cons, List.length_nil, List.length_replicate, List.length_set] <;> omega) | (simp only [push_cast] <;> omega) | fail) only [push_cast, reduceCtorEq, Nat.reduceAdd, Nat.reduceSub, Nat.reduceMul, Nat.reduceEqDiff, Nat.reduceLT, Nat.reduceLeDiff, Nat.reduceMod, Nat.reduceDiv, Int.reduceLE, Int.reduceLT, Int.reduceEq, Int.reduceToNat, Int.reduceAdd, Int.reduceSub, Int.reduceMul, Int.reduceNeg, t1, beq_self_eq_true] <;> rfl)) ?_
   refine yX ?_
   refine yF ?_
   refine yE (yB (yC (yJ (yK ?_))))
   refine vE (()) (wF ?_) ?_
   ·refine yT ?_ ?_ ?_ <;> simp [rcT, wpT]
   ·trivial
  ·skip
   iterate 4 refine yF ?_
   iterate 3 refine yX ?_
   iterate 2 refine yF ?_
   iterate 3 refine yX ?_
   refine yX (hs := by (simp (disch := first | omega | (simp only [List.length_drop, List.length_take, List.length_map, List.length_append, List.length_cons, List.length_nil, List.length_replicate, List.length_set] <;> omega) | (simp only [push_cast] <;> omega) | fail) only [push_cast, reduceCtorEq, Nat.reduceAdd, Nat.reduceSub, Nat.reduceMul, Nat.reduceEqDiff, Nat.reduceLT, Nat.reduceLeDiff, Nat.reduceMod, Nat.reduceDiv, Int.reduceLE, Int.reduceLT, Int.reduceEq, Int.reduceToNat, Int.reduceAdd, Int.reduceSub, Int.reduceMul, Int.reduceNeg, show ¬ ((r.prev.length : Int) = 32) from by rw [p2]; decide] <;> rfl)) ?_
   iterate 7 refine yX ?_
   refine yX (hs := by (simp (disch := first | omega | (simp only [List.length_drop, List.length_take, List.length_map, List.length_append, List.length_cons, List.length_nil, List.length_replicate, List.length_set] <;> omega) | (simp only [push_cast] <;> omega) | fail) only [push_cast, reduceCtorEq, Nat.reduceAdd, Nat.reduceSub, Nat.reduceMul, Nat.reduceEqDiff, Nat.reduceLT, Nat.reduceLeDiff, Nat.reduceMod, Nat.reduceDiv, Int.reduceLE, Int.reduceLT, Int.reduceEq, Int.reduceToNat, Int.reduceAdd, Int.reduceSub, Int.reduceMul, Int.reduceNeg, p2, beq_self_eq_true] <;> rfl)) ?_
   iterate 2 refine yX ?_
   iterate 2 refine yF ?_
   iterate 8 refine yX ?_
   iterate 2 refine yF ?_
   iterate 3 refine yX ?_
   iterate 2 refine yF ?_
   iterate 3 refine yX ?_
   iterate 2 refine yF ?_
   iterate 5 refine yX ?_
   iterate 3 refine wG ?_
   refine yX ?_
   refine yF ?_
   refine yE (yB (yC (yJ (yK ?_))))
   refine vE (()) (wF ?_) ?_
   ·refine yT ?_ ?_ ?_ <;> simp [rcT, wpT]
   ·trivial
 ·intro _ _
  refine vL ?_
  refine yD (yD (yA rfl ?_))
  refine yF ?_
  refine yE (yB (yC (yI ?_)))
  refine xJ (fun sl L (i : Nat) => ⟨setAll (setBad sl [0, 2, 4, 5, 6, 7, 8, 9, 10, 11, 12, 13, 14, 15, 16, 17, 18, 19, 20, 21, 22, 23, 24, 25, 26, 27, 28, 29, 30, 31, 32, 33, 34, 35, 36, 37, 38, 39, 40, 41, 42, 43, 44, 45, 46, 47, 48, 49, 50, 51, 52, 53, 54, 55, 56, 57, 58, 59, 60, 61, 62, 63, 64, 65, 66, 67, 68, 69, 70, 71, 72, 73, 74, 75, 76, 77, 78, 79, 80, 81, 82, 83, 84, 85, 86, 87, 88, 89, 90, 91, 92, 93, 94, 95, 96, 97, 98, 99, 100, 101]) [(3, .t (num i))], Go.Ot.look (L)⟩) (fun i => i ≤ r.wraps.length) (fun i => r.wraps.length - i) (0) (wF ?_) ?_ ?_
  ·refine yT ?_ ?_ ?_ <;> simp [rcT, wpT]
  ·(first | omega | simp)
  ·intro i hi
   refine vL ?_
   refine yD (yD (yA rfl ?_))
   iterate 5 refine yF ?_
   refine yE (yB (yC ?_))
   refine vM (fun hc1 => ?_) (fun hc1 => ?_)
   ·(try simp only [Bool.and_eq_true, Bool.or_eq_true, Bool.or_eq_false_iff, Bool.not_eq_true', Bool.not_eq_false', xH, xI, Bool.and_eq_false_imp, beq_iff_eq, beq_eq_false_iff_ne, ne_eq] at hc1)
    refine yK (yC (yD (yI (yD (yA rfl ?_)))))
    iterate 5 refine yF ?_
    obtain ⟨e, he⟩ : ∃ e, r.wraps.getD i default = e := ⟨_, rfl⟩
    simp only [he]
    iterate 2 refine yF ?_
    refine yE (yB (yC (yD (yA rfl ?_))))
    have hw := wpOk_iff.1 (qO hm (i := i) (by omega))
    rw [he] at hw
    obtain ⟨g0, g1, g2, g3⟩ := hw
    rcases i with _ | k
    ·skip
     iterate 4 refine yW ?_
     iterate 3 refine vR ?_
     iterate 2 refine yW ?_
     iterate 4 refine vR ?_
     iterate 2 refine yW ?_
     iterate 3 refine vR ?_
     iterate 10 refine yCC ?_
     refine vR ?_
     refine yW ?_
     refine yE (xP (by kernel_rfl) (yC (yJ (yK (yS (yC (yA rfl ?_)))))))
     iterate 3 refine yF ?_
     refine yE (yB ?_)
     refine xF (0 + 1) (wF ?_) ?_ ?_
     ·refine yT ?_ ?_ ?_ <;> simp [rcT, wpT]
     ·(first | omega | (simp_all <;> omega))
     ·(first | omega | (simp only []; omega))
    ·have g4 := g3 (by omega)
     rw [Nat.add_sub_cancel] at g4
     iterate 4 refine yW ?_
     iterate 3 refine vR ?_
     iterate 2 refine yW ?_
     iterate 4 refine vR ?_
     iterate 2 refine yW ?_
     iterate 6 refine vR ?_
     refine vR (hs := by (simp (disch := first | omega | (simp only [List.length_drop, List.length_take, List.length_map, List.length_append, List.length_cons, List.length_nil, List.length_replicate, List.length_set] <;> omega) | (simp only [push_cast] <;> omega) | fail) only [push_cast, reduceCtorEq, Nat.reduceAdd, Nat.reduceSub, Nat.reduceMul, Nat.reduceEqDiff, Nat.reduceLT, Nat.reduceLeDiff, Nat.reduceMod, Nat.reduceDiv, Int.reduceLE, Int.reduceLT, Int.reduceEq, Int.reduceToNat, Int.reduceAdd, Int.reduceSub, Int.reduceMul, Int.reduceNeg, show ((k : Int) + 1 - 1) = k from by omega] <;> rfl)) ?_
     iterate 7 refine vR ?_
     refine yW ?_
     refine yE (xP (by kernel_rfl) (yC (yJ (yK (yS (yC (yA rfl ?_)))))))
     iterate 3 refine yF ?_
     refine yE (yB ?_)
     refine xF (k + 1 + 1) (wF ?_) ?_ ?_
     ·refine yT ?_ ?_ ?_ <;> simp [rcT, wpT]
     ·(first | omega | (simp_all <;> omega))
     ·(first | omega | (simp only []; omega))
   ·(try simp only [Bool.and_eq_true, Bool.or_eq_true, Bool.or_eq_false_iff, Bool.not_eq_true', Bool.not_eq_false', xH, xI, Bool.and_eq_false_imp, beq_iff_eq, beq_eq_false_iff_ne, ne_eq] at hc1)
    refine xQ (yM (yN (yL (yC (yD (yA rfl ?_))))))
    refine yF ?_
    refine yE (yB (yC (yP ?_)))
    refine ⟨.inr rfl, yQ [] (by rw [results44]) ?_ ?_ ?_⟩ <;> simp [rcT, wpT]
theorem tW (Γ : Gl) (n : Int) : Go.Ot.Good Γ prog 42 [.t (num n)] [] (wA (.mk 1 n [] [])) [] [] := by
 refine yR F.mix func42 (by rfl) ntmps42 ?_
 refine yD (yA rfl ?_)
 refine yF ?_
 refine yE (yB (yC (yD (yA rfl ?_))))
 iterate 3 refine yF ?_
 refine yE (yB (yC (yP ?_)))
 refine ⟨.inr rfl, yQ [] (by rw [results42]) ?_ ?_ ?_⟩ <;> simp [Wr.cellsL_len, wA, Wr.k_mk, Wr.n_mk, Wr.s_mk, Wr.l_mk, Wr.cellsL, Wr.z_eq]
theorem nC (Γ : Gl) (s : List UInt8) : Go.Ot.Good Γ prog 43 [.t (txt s)] [] (wA (.mk 2 0 s [])) [] [] := by
 refine yR F.mix func43 (by rfl) ntmps43 ?_
 refine yD (yA rfl ?_)
 refine yF ?_
 refine yE (yB (yC (yD (yA rfl ?_))))
 iterate 3 refine yF ?_
 refine yE (yB (yC (yP ?_)))
 refine ⟨.inr rfl, yQ [] (by rw [results43]) ?_ ?_ ?_⟩ <;> simp [Wr.cellsL_len, wA, Wr.k_mk, Wr.n_mk, Wr.s_mk, Wr.l_mk, Wr.cellsL, Wr.z_eq]
theorem nD (Γ : Gl) (l : List Wr) : Go.Ot.Good Γ prog 41 [wS l] [] (wA (.mk 3 0 [] l)) [] [] := by
 refine yR F.mix func41 (by rfl) ntmps41 ?_
 refine yD (yA rfl ?_)
 refine yF ?_
 refine yE (yB (yC (yD (yA rfl ?_))))
 iterate 3 refine yF ?_
 refine yE (yB (yC (yP ?_)))
 refine ⟨.inr rfl, yQ [] (by rw [results41]) ?_ ?_ ?_⟩ <;> simp [Wr.cellsL_len, wA, Wr.k_mk, Wr.n_mk, Wr.s_mk, Wr.l_mk, Wr.cellsL, Wr.z_eq, wS]
theorem yBZ (Γ : Gl) (r : Rc) (hp : rcP r) : Go.Ot.Good Γ prog 16 [.agg [.t (num r.seq), .t (txt r.prev), .t (num r.kind), .t (num r.dev), .t (.sl r.wraps.length (r.wraps.flatMap wpT)), .t (txt r.tag)]] [] (.t (txt (rcF r))) [] [] := by
 have hwl := (sR hp.2.2.2.2.2.2).1
 refine yR F.mix func16 (by rfl) ntmps16 ?_
 refine yD (yA rfl ?_)
 iterate 2 refine yF ?_
 refine yE (yB (yC (yD (yD (yA rfl ?_)))))
 refine yF ?_
 refine yU [] false (yB3 Γ r hp) ?_
 refine yF ?_
 refine yE (yB (yC (yJ (yK (yC (yD (yA rfl ?_)))))))
 refine yF ?_
 refine yE (yB (yC (yD (yD (yA rfl ?_)))))
 refine yF ?_
 refine yE (yB (yC (yI ?_)))
 refine xJ (fun sl L (i : Nat) => ⟨setAll (setBad sl [0, 5, 6, 7, 8, 9, 10, 11, 12, 13, 14, 15, 16, 17, 18, 19, 20, 21, 22, 23, 24, 25, 26, 27, 28, 29, 30, 31, 32, 33]) [(3, .msl (.n 9) 0 i 4), (4, .t (num i))], Go.Ot.look (vJ (.n 9) (lE (wpW (r.wraps.take i))) L)⟩) (fun i => i ≤ r.wraps.length) (fun i => r.wraps.length - i) (0) (wF ?_) ?_ ?_
 ·refine wQ [(.r 0 0 0, .r 0 0 0)] ?_ ?_ ?_ <;> simp [Wr.cellsL_len, wA, Wr.k_mk, Wr.n_mk, Wr.s_mk, Wr.l_mk, Wr.cellsL, Wr.z_eq, rcT, wpT, lE, wpW_nil]
 ·(first | omega | simp)
 ·intro i hi
  refine vL ?_
  refine yD (yD (yA rfl ?_))
  iterate 5 refine yF ?_
  refine yE (yB (yC ?_))
  refine vM (fun hc1 => ?_) (fun hc1 => ?_)
  ·(try simp only [Bool.and_eq_true, Bool.or_eq_true, Bool.or_eq_false_iff, Bool.not_eq_true', Bool.not_eq_false', xH, xI, Bool.and_eq_false_imp, beq_iff_eq, beq_eq_false_iff_ne, ne_eq] at hc1)
   refine yK (yC (yD (yI ?_)))
   refine tC (.n 9) [3, 15] [] rfl ?_
   iterate 7 refine nF ?_
   refine vB [] [] [] false (tW Γ (r.wraps.getD i default).dev) ?_
   iterate 6 refine nF ?_
   refine vB [] [] [] false (nC Γ (r.wraps.getD i default).box) ?_
   refine nF ?_
   refine vB [] [.r 7 15 0] [] true (nD Γ [.mk 1 (r.wraps.getD i default).dev [] [], .mk 2 0 (r.wraps.getD i default).box []]) ?_
   iterate 3 refine nF ?_
   refine kF ⟨yCH (by kernel_rfl) (by kernel_rfl), ?_⟩
   refine yS (yC (yA rfl ?_))
   iterate 3 refine yF ?_
   refine yE (yB ?_)
   have hil : i < r.wraps.length := by omega
   have hnx := yAO hil
   refine xF (i + 1) (wF ?_) ?_ ?_
   ·refine wQ [(.r 0 0 0, .r 0 0 0), (.n 9, .n 9)] ?_ ?_ ?_ <;> simp [Wr.cellsL_len, wA, Wr.k_mk, Wr.n_mk, Wr.s_mk, Wr.l_mk, Wr.cellsL, Wr.z_eq, rcT, wpT, lE, hnx, uX, wC, Wr.cells]
   ·(first | omega | (simp_all <;> omega))
   ·(first | omega | (simp only []; omega))
  ·(try simp only [Bool.and_eq_true, Bool.or_eq_true, Bool.or_eq_false_iff, Bool.not_eq_true', Bool.not_eq_false', xH, xI, Bool.and_eq_false_imp, beq_iff_eq, beq_eq_false_iff_ne, ne_eq] at hc1)
   refine xQ (yM (yN (yL (yC (yD (yA rfl ?_))))))
   have hil : i = r.wraps.length := by omega
   subst hil
   simp only [List.take_length]
   iterate 2 refine yW ?_
   refine yV [] false (tW Γ r.seq) ?_
   iterate 2 refine yW ?_
   refine yV [] false (nC Γ r.prev) ?_
   iterate 2 refine yW ?_
   refine yV [] false (tW Γ r.kind) ?_
   iterate 2 refine yW ?_
   refine yV [] false (tW Γ r.dev) ?_
   refine yW ?_
   refine yV [.n 9] true (nD Γ (wpW r.wraps)) ?_ (hv := by (simp (disch := first | omega | (simp only [List.length_drop, List.length_take, List.length_map, List.length_append, List.length_cons, List.length_nil, List.length_replicate, List.length_set] <;> omega) | fail) [-List.map_map, -List.map_drop, -List.map_take, VwL_cons, xN, xY, vU, xV, xW, xU, Vw_agg, xS, xX, xC, VwL_refl_map, xA, xL, xM, wK, xK, yZ, xE, yY, VwTs_app, List.take_of_length_le, srcL, notIn, ObsVw, SrcOk, pOk, Go.Ot.look, resP, resN, ev, evc, mkS, push_cast, List.take_of_length_le, fX, kW] <;> (try omega)))
   iterate 2 refine yW ?_
   refine yV [] false (nC Γ r.tag) ?_
   refine yW ?_
   refine yV [.r 8 17 0] true (nD Γ [.mk 1 r.seq [] [], .mk 2 0 r.prev [], .mk 1 r.kind [] [], .mk 1 r.dev [] [], .mk 3 0 [] (wpW r.wraps), .mk 2 0 r.tag []]) ?_
   refine yV [] false (mX Γ (.mk 3 0 [] [.mk 1 r.seq [] [], .mk 2 0 r.prev [], .mk 1 r.kind [] [], .mk 1 r.dev [] [], .mk 3 0 [] (wpW r.wraps), .mk 2 0 r.tag []]) (by simp [Wr.szL, Wr.sz, szL_wpW]; omega) (fun _ => Nat.le_trans (show (putW 6 (rcW r)).length ≤ 2000 from eS hp) (by omega))) ?_
   refine yW ?_
   refine yE (xP (by kernel_rfl) (yC (yP ?_)))
   refine ⟨.inr rfl, yQ [] (by rw [results16]) ?_ ?_ ?_⟩ <;> simp [rcT, wpT, yDc hp, rcW]
theorem yDX (Γ : Gl) (r : Rc) (hp : rcP r) : Go.Ot.Good Γ prog 78 [.agg [.t (num r.seq), .t (txt r.prev), .t (num r.kind), .t (num r.dev), .t (.sl r.wraps.length (r.wraps.flatMap wpT)), .t (txt r.tag)]] [] (.t (txt (hsh r))) [] [] := by
 have hrl := sK r
 refine yR F.mix func78 (by rfl) ntmps78 ?_
 refine yD (yA rfl ?_)
 iterate 2 refine yF ?_
 refine yE (yB (yC (yD (yA rfl ?_))))
 refine yF ?_
 refine yU [] false (yBZ Γ r hp) ?_
 refine yU [] false (pX Γ (rcF r) (by omega)) ?_
 refine yF ?_
 refine yE (yB (yC (yP ?_)))
 refine ⟨.inr rfl, yQ [] (by rw [results78]) ?_ ?_ ?_⟩ <;> simp [rcT, wpT, hsh]
theorem yIy (Γ : Gl) (r : Rc) (hp : rcP r) : Go.Ot.Good Γ prog 83 [.agg [.t (num r.seq), .t (txt r.prev), .t (num r.kind), .t (num r.dev), .t (.sl r.wraps.length (r.wraps.flatMap wpT)), .t (txt r.tag)]] [] (.t (txt (hdF r))) [] [] := by
 refine yR F.mix func83 (by rfl) ntmps83 ?_
 refine yD (yA rfl ?_)
 iterate 2 refine yF ?_
 refine yE (yB (yC (yD (yD (yA rfl ?_)))))
 refine yF ?_
 refine yU [] false (yB3 Γ r hp) ?_
 refine yF ?_
 refine yE (yB (yC (yJ (yK (yC (yD (yA rfl ?_)))))))
 iterate 2 refine yW ?_
 refine yV [] false (tW Γ r.seq) ?_
 iterate 2 refine yW ?_
 refine yV [] false (tW Γ r.kind) ?_
 iterate 2 refine yW ?_
 refine yV [] false (tW Γ r.dev) ?_
 iterate 2 refine yW ?_
 refine yV [] false (nC Γ r.prev) ?_
 refine yW ?_
 refine yV [.r 3 12 0] true (nD Γ [.mk 1 r.seq [] [], .mk 1 r.kind [] [], .mk 1 r.dev [] [], .mk 2 0 r.prev []]) ?_
 refine yV [] false (mX Γ (.mk 3 0 [] [.mk 1 r.seq [] [], .mk 1 r.kind [] [], .mk 1 r.dev [] [], .mk 2 0 r.prev []]) (by simp [Wr.szL, Wr.sz]) (fun _ => Nat.le_trans (show (putW 6 (hdW r)).length ≤ 2000 from yBr hp) (by omega))) ?_
 refine yW ?_
 refine yE (xP (by kernel_rfl) (yC (yP ?_)))
 refine ⟨.inr rfl, yQ [] (by rw [results83]) ?_ ?_ ?_⟩ <;> simp [rcT, wpT, hdW, hdF_t hp]
theorem tagRP (Γ : Gl) (key : List UInt8) (hk : key.length ≤ 1000) (q : Int) (p : List UInt8) (k d : Int) (w : List Wp) (hp : rcP ⟨q, p, k, d, w, []⟩) : Go.Ot.Good Γ prog 85 [.t (txt key), .agg [.t (num q), .t (txt p), .t (num k), .t (num d), .t (.sl w.length (w.flatMap wpT)), .t (txt [])]] [] (.t (txt ((Cy.hmacB key (rcF ⟨q, p, k, d, w, []⟩)).take 16))) [] [] := by
 have hrl := sK (⟨q, p, k, d, w, []⟩ : Rc)
 have hml := Cy.hmacB_len key (rcF (⟨q, p, k, d, w, []⟩ : Rc))
 refine yR F.mix func85 (by rfl) ntmps85 ?_
 refine yD (yA rfl ?_)
 iterate 2 refine yF ?_
 refine yE (yB (yC (yD (yD (yA rfl ?_)))))
 refine yF ?_
 refine yU [] false (yB3 Γ (⟨q, p, k, d, w, []⟩ : Rc) hp) ?_
 refine yF ?_
 refine yE (yB (yC (yJ (yK (yC (yD (yA rfl ?_)))))))
 iterate 2 refine yF ?_
 refine yE (yB (yC (yD (yA rfl ?_))))
 iterate 2 refine yF ?_
 refine yU [] false (yBZ Γ (⟨q, p, k, d, w, []⟩ : Rc) hp) ?_
 refine yU [] false (Cy.refmac_good Γ key (rcF (⟨q, p, k, d, w, []⟩ : Rc)) (by omega) (by omega)) ?_
 iterate 2 refine yF ?_
 refine yE (yB (yC (yP ?_)))
 refine ⟨.inr rfl, yQ [] (by rw [results85]) ?_ ?_ ?_⟩ <;> simp [rcT, wpT]
end Go.Proofs.Tryz

namespace Go.Proofs.Tryz
open Go Go.Ot
attribute [local simp] num bol txt w8 w16 w32 w64 lst cls wE xZ List.take_of_length_le
attribute [local irreducible] wpK wpS uI wH wW wM vC xB Le rdS lpW rdW got tB mayW uZ putW nb u64 qV mwB sha rcF hdF hsh RG inF chC fl lkT wpW Cy.hmacB inR inB ckB vG
theorem yEr (Γ : Gl) (log : List Rc) (hck : ckB log = true) : Go.Ot.Good Γ prog 77 [.t (.sl log.length (log.flatMap rcT))] [] (.t (bol true)) [] [] := by
 have h40 := (sH hck).1
 refine yR F.mix func77 (by rfl) ntmps77 ?_
 refine yD (yA rfl ?_)
 refine yF ?_
 refine yE (yB (yC (yD (yD (yA rfl ?_)))))
 iterate 3 refine yF ?_
 refine yE (yB (yC (yJ (yK (yC (yD (yA rfl ?_)))))))
 refine yF ?_
 refine yE (yB (yC (yD (yD (yA rfl ?_)))))
 refine yF ?_
 refine yE (yB (yC (yI ?_)))
 refine xJ (fun sl L (i : Nat) => ⟨setAll (setBad sl [2, 5, 6, 7, 8, 9, 10, 11, 12, 13, 14, 15, 16, 17, 18, 19, 20, 21, 22, 23, 24, 25, 26, 27, 28, 29, 30, 31, 32, 33, 34, 35, 36, 37, 38, 39, 40, 41, 42, 43, 44, 45, 46, 47, 48, 49, 50, 51, 52, 53, 54, 55, 56, 57, 58, 59, 60, 61, 62, 63, 64, 65, 66, 67, 68, 69, 70, 71, 72, 73, 74, 75, 76, 77, 78]) [(3, .t (txt (vG log i))), (4, .t (num i))], Go.Ot.look (L)⟩) (fun i => i ≤ log.length) (fun i => log.length - i) (0) (wF ?_) ?_ ?_
 ·refine yT ?_ ?_ ?_ <;> simp [rcT, wpT, vG]
 ·(first | omega | simp)
 ·intro i hi
  refine vL ?_
  refine yD (yD (yA rfl ?_))
  iterate 4 refine yF ?_
  refine yE (yB (yC ?_))
  refine vM (fun hc1 => ?_) (fun hc1 => ?_)
  ·(try simp only [Bool.and_eq_true, Bool.or_eq_true, Bool.or_eq_false_iff, Bool.not_eq_true', Bool.not_eq_false', xH, xI, Bool.and_eq_false_imp, beq_iff_eq, beq_eq_false_iff_ne, ne_eq] at hc1)
   refine yK (yC (yD (yI (yD (yA rfl ?_)))))
   iterate 4 refine yF ?_
   obtain ⟨r, he⟩ : ∃ r, log.getD i default = r := ⟨_, rfl⟩
   simp only [he]
   iterate 2 refine yF ?_
   refine yE (yB (yC (yD (yD (yA rfl ?_)))))
   have hr' : i < log.length := by omega
   have hok := aL ((sH hck).2 i hr')
   rw [he] at hok
   obtain ⟨g1, ⟨g2, g3'⟩, hno⟩ := hok
   have g3 : (r.prev == vG log i) = true := by rw [g3']; exact beq_self_eq_true _
   have hcn : (inF log i).contains r.dev = decide (r.kind = 2) := Classical.byContradiction (fun h => hno (.inr (.inr h)))
   have hpn := yIa he
   rcases (show (i = 0 ∧ r.kind = 1 ∧ r.dev = 0) ∨ (i ≠ 0 ∧ r.kind = 1) ∨ (i ≠ 0 ∧ r.kind = 2 ∧ r.dev ≠ 0) from by
    have h1 := g1.2.2.2.1
    have h2 : ¬ (i = 0 ∧ (r.kind ≠ 1 ∨ r.dev ≠ 0)) := fun h => hno (.inl h)
    have h3 : ¬ (r.kind = 2 ∧ r.dev = 0) := fun h => hno (.inr (.inl h))
    rcases h1 with h1 | h1 <;> omega) with ⟨g4, g5, g6⟩ | ⟨g4, g5⟩ | ⟨g4, g5, g6⟩
   ·have hin : inB (log.take i) i r.dev = false := by
     rw [yBq (by omega) (fun j hj => (sH hck).2 j (by omega)) g1.2.2.2.2.1, hcn, g5]; decide
    refine yF ?_
    refine yU [] false (yB3 Γ r g1) ?_
    iterate 2 refine yF ?_
    iterate 5 refine yX ?_
    iterate 2 refine yF ?_
    iterate 3 refine yX ?_
    refine yX (hs := by (simp (disch := first | omega | (simp only [List.length_drop, List.length_take, List.length_map, List.length_append, List.length_cons, List.length_nil, List.length_replicate, List.length_set] <;> omega) | (simp only [push_cast] <;> omega) | fail) only [push_cast, reduceCtorEq, Nat.reduceAdd, Nat.reduceSub, Nat.reduceMul, Nat.reduceEqDiff, Nat.reduceLT, Nat.reduceLeDiff, Nat.reduceMod, Nat.reduceDiv, Int.reduceLE, Int.reduceLT, Int.reduceEq, Int.reduceToNat, Int.reduceAdd, Int.reduceSub, Int.reduceMul, Int.reduceNeg, g3] <;> rfl)) ?_
    iterate 2 refine yF ?_
    iterate 12 refine yX ?_
    refine yF ?_
    refine yE (yB (yC (yJ (yK (yC (yD (yA rfl ?_)))))))
    have htk := eR (log := log) (i := i) (by omega)
    have hlt : (log.take i).length = i := by rw [List.length_take]; omega
    iterate 6 refine yW ?_
    refine yV [] false ((by have h := uP Γ (log.take i) i r.dev (by omega); rw [hin] at h; exact h)) ?_ (hv := by (simp (disch := first | omega | (simp only [List.length_drop, List.length_take, List.length_map, List.length_append, List.length_cons, List.length_nil, List.length_replicate, List.length_set] <;> omega) | fail) [-List.map_map, -List.map_drop, -List.map_take, VwL_cons, xN, xY, vU, xV, xW, xU, Vw_agg, xS, xX, xC, VwL_refl_map, xA, xL, xM, wK, xK, yZ, xE, yY, VwTs_app, List.take_of_length_le, srcL, notIn, ObsVw, SrcOk, pOk, Go.Ot.look, resP, resN, ev, evc, mkS, push_cast, List.take_of_length_le, htk, hlt, -List.length_flatMap] <;> (try omega)))
    refine yW ?_
    refine yE (xP (by kernel_rfl) (yC (yD (yD (yA rfl ?_)))))
    iterate 4 refine yF ?_
    refine yX ?_
    iterate 2 refine yF ?_
    iterate 4 refine yX ?_
    iterate 7 refine wG ?_
    refine yX ?_
    refine yF ?_
    refine yE (yB (yC (yJ (yK (yC (yA rfl ?_))))))
    refine yF ?_
    refine yU [] false (yDX Γ r g1) ?_
    refine yF ?_
    refine yE (yB (yS (yC (yA rfl ?_))))
    iterate 3 refine yF ?_
    refine yE (yB ?_)
    refine xF (i + 1) (wF ?_) ?_ ?_
    ·refine yT ?_ ?_ ?_ <;> simp [rcT, wpT, hpn]
    ·(first | omega | (simp_all <;> omega))
    ·(first | omega | (simp only []; omega))
   ·have hin : inB (log.take i) i r.dev = false := by
     rw [yBq (by omega) (fun j hj => (sH hck).2 j (by omega)) g1.2.2.2.2.1, hcn, g5]; decide
    refine yF ?_
    refine yU [] false (yB3 Γ r g1) ?_
    iterate 2 refine yF ?_
    iterate 5 refine yX ?_
    iterate 2 refine yF ?_
    iterate 3 refine yX ?_
    refine yX (hs := by (simp (disch := first | omega | (simp only [List.length_drop, List.length_take, List.length_map, List.length_append, List.length_cons, List.length_nil, List.length_replicate, List.length_set] <;> omega) | (simp only [push_cast] <;> omega) | fail) only [push_cast, reduceCtorEq, Nat.reduceAdd, Nat.reduceSub, Nat.reduceMul, Nat.reduceEqDiff, Nat.reduceLT, Nat.reduceLeDiff, Nat.reduceMod, Nat.reduceDiv, Int.reduceLE, Int.reduceLT, Int.reduceEq, Int.reduceToNat, Int.reduceAdd, Int.reduceSub, Int.reduceMul, Int.reduceNeg, g3] <;> rfl)) ?_
    iterate 2 refine yF ?_
    iterate 3 refine yX ?_
    iterate 8 refine wG ?_
    refine yX ?_
    refine yF ?_
    refine yE (yB (yC (yJ (yK (yC (yD (yA rfl ?_)))))))
    have htk := eR (log := log) (i := i) (by omega)
    have hlt : (log.take i).length = i := by rw [List.length_take]; omega
    iterate 6 refine yW ?_
    refine yV [] false ((by have h := uP Γ (log.take i) i r.dev (by omega); rw [hin] at h; exact h)) ?_ (hv := by (simp (disch := first | omega | (simp only [List.length_drop, List.length_take, List.length_map, List.length_append, List.length_cons, List.length_nil, List.length_replicate, List.length_set] <;> omega) | fail) [-List.map_map, -List.map_drop, -List.map_take, VwL_cons, xN, xY, vU, xV, xW, xU, Vw_agg, xS, xX, xC, VwL_refl_map, xA, xL, xM, wK, xK, yZ, xE, yY, VwTs_app, List.take_of_length_le, srcL, notIn, ObsVw, SrcOk, pOk, Go.Ot.look, resP, resN, ev, evc, mkS, push_cast, List.take_of_length_le, htk, hlt, -List.length_flatMap] <;> (try omega)))
    refine yW ?_
    refine yE (xP (by kernel_rfl) (yC (yD (yD (yA rfl ?_)))))
    iterate 4 refine yF ?_
    refine yX ?_
    iterate 2 refine yF ?_
    iterate 4 refine yX ?_
    iterate 7 refine wG ?_
    refine yX ?_
    refine yF ?_
    refine yE (yB (yC (yJ (yK (yC (yA rfl ?_))))))
    refine yF ?_
    refine yU [] false (yDX Γ r g1) ?_
    refine yF ?_
    refine yE (yB (yS (yC (yA rfl ?_))))
    iterate 3 refine yF ?_
    refine yE (yB ?_)
    refine xF (i + 1) (wF ?_) ?_ ?_
    ·refine yT ?_ ?_ ?_ <;> simp [rcT, wpT, hpn]
    ·(first | omega | (simp_all <;> omega))
    ·(first | omega | (simp only []; omega))
   ·have hin : inB (log.take i) i r.dev = true := by
     rw [yBq (by omega) (fun j hj => (sH hck).2 j (by omega)) g1.2.2.2.2.1, hcn, g5]; decide
    refine yF ?_
    refine yU [] false (yB3 Γ r g1) ?_
    iterate 2 refine yF ?_
    iterate 5 refine yX ?_
    iterate 2 refine yF ?_
    iterate 3 refine yX ?_
    refine yX (hs := by (simp (disch := first | omega | (simp only [List.length_drop, List.length_take, List.length_map, List.length_append, List.length_cons, List.length_nil, List.length_replicate, List.length_set] <;> omega) | (simp only [push_cast] <;> omega) | fail) only [push_cast, reduceCtorEq, Nat.reduceAdd, Nat.reduceSub, Nat.reduceMul, Nat.reduceEqDiff, Nat.reduceLT, Nat.reduceLeDiff, Nat.reduceMod, Nat.reduceDiv, Int.reduceLE, Int.reduceLT, Int.reduceEq, Int.reduceToNat, Int.reduceAdd, Int.reduceSub, Int.reduceMul, Int.reduceNeg, g3] <;> rfl)) ?_
    iterate 2 refine yF ?_
    iterate 3 refine yX ?_
    iterate 8 refine wG ?_
    refine yX ?_
    refine yF ?_
    refine yE (yB (yC (yJ (yK (yC (yD (yA rfl ?_)))))))
    have htk := eR (log := log) (i := i) (by omega)
    have hlt : (log.take i).length = i := by rw [List.length_take]; omega
    iterate 6 refine yW ?_
    refine yV [] false ((by have h := uP Γ (log.take i) i r.dev (by omega); rw [hin] at h; exact h)) ?_ (hv := by (simp (disch := first | omega | (simp only [List.length_drop, List.length_take, List.length_map, List.length_append, List.length_cons, List.length_nil, List.length_replicate, List.length_set] <;> omega) | fail) [-List.map_map, -List.map_drop, -List.map_take, VwL_cons, xN, xY, vU, xV, xW, xU, Vw_agg, xS, xX, xC, VwL_refl_map, xA, xL, xM, wK, xK, yZ, xE, yY, VwTs_app, List.take_of_length_le, srcL, notIn, ObsVw, SrcOk, pOk, Go.Ot.look, resP, resN, ev, evc, mkS, push_cast, List.take_of_length_le, htk, hlt, -List.length_flatMap] <;> (try omega)))
    refine yW ?_
    refine yE (xP (by kernel_rfl) (yC (yD (yD (yA rfl ?_)))))
    iterate 4 refine yF ?_
    refine wG ?_
    iterate 2 refine yF ?_
    iterate 12 refine yX ?_
    refine yF ?_
    refine yE (yB (yC (yJ (yK (yC (yA rfl ?_))))))
    refine yF ?_
    refine yU [] false (yDX Γ r g1) ?_
    refine yF ?_
    refine yE (yB (yS (yC (yA rfl ?_))))
    iterate 3 refine yF ?_
    refine yE (yB ?_)
    refine xF (i + 1) (wF ?_) ?_ ?_
    ·refine yT ?_ ?_ ?_ <;> simp [rcT, wpT, hpn]
    ·(first | omega | (simp_all <;> omega))
    ·(first | omega | (simp only []; omega))
  ·(try simp only [Bool.and_eq_true, Bool.or_eq_true, Bool.or_eq_false_iff, Bool.not_eq_true', Bool.not_eq_false', xH, xI, Bool.and_eq_false_imp, beq_iff_eq, beq_eq_false_iff_ne, ne_eq] at hc1)
   refine xQ (yM (yN (yL (yC (yD (yA rfl ?_))))))
   refine yF ?_
   refine yE (yB (yC (yP ?_)))
   refine ⟨.inr rfl, yQ [] (by rw [results77]) ?_ ?_ ?_⟩ <;> simp [rcT, wpT]
end Go.Proofs.Tryz
