/- Contracts of this program's functions. -/
import Derived.Test.YtkbikblijipceaaGreatDoorSMF2
import Derived.Test.YtkbikblijipceaaGreatDoorSCH1
import Derived.Test.YtkbikblijipceaaGreatDoorSJ
import Derived.Test.YtkbikblijipceaaGreatDoorSU1
set_option maxHeartbeats 4000000
set_option maxRecDepth 100000
set_option linter.unusedVariables false
set_option linter.unusedSimpArgs false
namespace Go.Proofs.Tryz
open Go Go.Ot
attribute [local simp] num bol txt w8 w16 w32 w64 lst cls wG wD List.take_of_length_le
attribute [local irreducible] wpK wpS uO wJ wY wO vF xA Le rdS lpW rdW got tL mayW tH putW nb u64 pE mwB sha rcF hdF hsh RG inF chC fl lkT wpW Cy.hmacB
theorem yCg (Γ : Gl) (r : Rc) (hp : rcP r) : Go.Ot.Good Γ prog 44 [.agg [.t (num r.seq), .t (txt r.prev), .t (num r.kind), .t (num r.dev), .t (.sl r.wraps.length (r.wraps.flatMap wpT)), .t (txt r.tag)]] [] (.t (bol true)) [] [] := by
 obtain ⟨hs, hs2, hP, hK, hd, hT, hm⟩ := hp
 have hwl := (sV hm).1
 refine yQ F.mix func44 (by rfl) ntmps44 ?_
 refine yD (yA rfl ?_)
 iterate 2 refine yF ?_
 refine yE (yB (yC ?_))
 refine dS (fun sl L (_u : Unit) => ⟨setAll (setBad sl [0, 2, 5, 6, 7, 8, 9, 10, 11, 12, 13, 14, 15, 16, 17, 18, 19, 20, 21, 22, 23, 24, 25, 26, 27, 28, 29, 30, 31, 32, 33, 34, 35, 36, 37, 38, 39, 40, 41, 42, 43, 44, 45, 46, 47, 48, 49, 50, 51, 52, 53, 54, 55, 56, 57, 58, 59]) [], Go.Ot.look (L)⟩) (fun _ => True) ?_ ?_
 ·skip
  refine yD (yA rfl ?_)
  rcases hP with p1 | ⟨p1, p2⟩ <;> rcases hK with k1 | k1 <;> rcases hT with t1 | t1
  ·have t2 : r.tag.length = 0 := by rw [t1]; rfl
   iterate 4 refine yF ?_
   iterate 3 refine yY ?_
   iterate 2 refine yF ?_
   iterate 5 refine yY ?_
   iterate 8 refine wI ?_
   refine yY ?_
   iterate 2 refine yF ?_
   iterate 4 refine yY ?_
   iterate 3 refine wI ?_
   refine yY ?_
   iterate 2 refine yF ?_
   iterate 3 refine yY ?_
   iterate 2 refine yF ?_
   iterate 3 refine yY ?_
   iterate 2 refine yF ?_
   iterate 7 refine yY ?_
   refine yY (hs := by (simp (disch := first | omega | (simp only [List.length_drop, List.length_take, List.length_map, List.length_append, List.length_cons, List.length_nil, List.length_replicate, List.length_set] <;> omega) | (simp only [push_cast] <;> omega) | fail) only [push_cast, reduceCtorEq, Nat.reduceAdd, Nat.reduceSub, Nat.reduceMul, Nat.reduceEqDiff, Nat.reduceLT, Nat.reduceLeDiff, Nat.reduceMod, Nat.reduceDiv, Int.reduceLE, Int.reduceLT, Int.reduceEq, Int.reduceToNat, Int.reduceAdd, Int.reduceSub, Int.reduceMul, Int.reduceNeg, t1, beq_self_eq_true] <;> rfl)) ?_
   refine yY ?_
   refine yF ?_
   refine yE (yB (yC (yJ (yK ?_))))
   refine vY (()) (wH ?_) ?_
   ·refine xB ?_ ?_ ?_ <;> simp [-List.map_set, -List.map_replicate, -List.reduceReplicate, -List.map_map, -List.map_drop, -List.map_take, rcT, wpT]
   ·trivial
  ·skip
   iterate 4 refine yF ?_
   iterate 3 refine yY ?_
   iterate 2 refine yF ?_
   iterate 5 refine yY ?_
   iterate 8 refine wI ?_
   refine yY ?_
   iterate 2 refine yF ?_
   iterate 4 refine yY ?_
   iterate 3 refine wI ?_
   refine yY ?_
   iterate 2 refine yF ?_
   iterate 3 refine yY ?_
   iterate 2 refine yF ?_
   iterate 3 refine yY ?_
   iterate 2 refine yF ?_
   iterate 5 refine yY ?_
   iterate 3 refine wI ?_
   refine yY ?_
   refine yF ?_
   refine yE (yB (yC (yJ (yK ?_))))
   refine vY (()) (wH ?_) ?_
   ·refine xB ?_ ?_ ?_ <;> simp [-List.map_set, -List.map_replicate, -List.reduceReplicate, -List.map_map, -List.map_drop, -List.map_take, rcT, wpT]
   ·trivial
  ·have t2 : r.tag.length = 0 := by rw [t1]; rfl
   iterate 4 refine yF ?_
   iterate 3 refine yY ?_
   iterate 2 refine yF ?_
   iterate 5 refine yY ?_
   iterate 8 refine wI ?_
   refine yY ?_
   iterate 2 refine yF ?_
   iterate 8 refine yY ?_
   iterate 2 refine yF ?_
   iterate 3 refine yY ?_
   iterate 2 refine yF ?_
   iterate 3 refine yY ?_
   iterate 2 refine yF ?_
   iterate 7 refine yY ?_
   refine yY (hs := by (simp (disch := first | omega | (simp only [List.length_drop, List.length_take, List.length_map, List.length_append, List.length_cons, List.length_nil, List.length_replicate, List.length_set] <;> omega) | (simp only [push_cast] <;> omega) | fail) only [push_cast, reduceCtorEq, Nat.reduceAdd, Nat.reduceSub, Nat.reduceMul, Nat.reduceEqDiff, Nat.reduceLT, Nat.reduceLeDiff, Nat.reduceMod, Nat.reduceDiv, Int.reduceLE, Int.reduceLT, Int.reduceEq, Int.reduceToNat, Int.reduceAdd, Int.reduceSub, Int.reduceMul, Int.reduceNeg, t1, beq_self_eq_true] <;> rfl)) ?_
   refine yY ?_
   refine yF ?_
   refine yE (yB (yC (yJ (yK ?_))))
   refine vY (()) (wH ?_) ?_
   ·refine xB ?_ ?_ ?_ <;> simp [-List.map_set, -List.map_replicate, -List.reduceReplicate, -List.map_map, -List.map_drop, -List.map_take, rcT, wpT]
   ·trivial
  ·skip
   iterate 4 refine yF ?_
   iterate 3 refine yY ?_
   iterate 2 refine yF ?_
   iterate 5 refine yY ?_
   iterate 8 refine wI ?_
   refine yY ?_
   iterate 2 refine yF ?_
   iterate 8 refine yY ?_
   iterate 2 refine yF ?_
   iterate 3 refine yY ?_
   iterate 2 refine yF ?_
   iterate 3 refine yY ?_
   iterate 2 refine yF ?_
   iterate 5 refine yY ?_
   iterate 3 refine wI ?_
   refine yY ?_
   refine yF ?_
   refine yE (yB (yC (yJ (yK ?_))))
   refine vY (()) (wH ?_) ?_
   ·refine xB ?_ ?_ ?_ <;> simp [-List.map_set, -List.map_replicate, -List.reduceReplicate, -List.map_map, -List.map_drop, -List.map_take, rcT, wpT]
   ·trivial
  ·have t2 : r.tag.length = 0 := by rw [t1]; rfl
   iterate 4 refine yF ?_
   iterate 3 refine yY ?_
   iterate 2 refine yF ?_
   iterate 3 refine yY ?_
   refine yY (hs := by (simp (disch := first | omega | (simp only [List.length_drop, List.length_take, List.length_map, List.length_append, List.length_cons, List.length_nil, List.length_replicate, List.length_set] <;> omega) | (simp only [push_cast] <;> omega) | fail) only [push_cast, reduceCtorEq, Nat.reduceAdd, Nat.reduceSub, Nat.reduceMul, Nat.reduceEqDiff, Nat.reduceLT, Nat.reduceLeDiff, Nat.reduceMod, Nat.reduceDiv, Int.reduceLE, Int.reduceLT, Int.reduceEq, Int.reduceToNat, Int.reduceAdd, Int.reduceSub, Int.reduceMul, Int.reduceNeg, show ¬ ((r.prev.length : Int) = 32) from by rw [p2]; decide] <;> rfl)) ?_
   iterate 7 refine yY ?_
   refine yY (hs := by (simp (disch := first | omega | (simp only [List.length_drop, List.length_take, List.length_map, List.length_append, List.length_cons, List.length_nil, List.length_replicate, List.length_set] <;> omega) | (simp only [push_cast] <;> omega) | fail) only [push_cast, reduceCtorEq, Nat.reduceAdd, Nat.reduceSub, Nat.reduceMul, Nat.reduceEqDiff, Nat.reduceLT, Nat.reduceLeDiff, Nat.reduceMod, Nat.reduceDiv, Int.reduceLE, Int.reduceLT, Int.reduceEq, Int.reduceToNat, Int.reduceAdd, Int.reduceSub, Int.reduceMul, Int.reduceNeg, p2, beq_self_eq_true] <;> rfl)) ?_
   iterate 2 refine yY ?_
   iterate 2 refine yF ?_
   iterate 4 refine yY ?_
   iterate 3 refine wI ?_
   refine yY ?_
   iterate 2 refine yF ?_
   iterate 3 refine yY ?_
   iterate 2 refine yF ?_
   iterate 3 refine yY ?_
   iterate 2 refine yF ?_
   iterate 7 refine yY ?_
   refine yY (hs := by (simp (disch := first | omega | (simp only [List.length_drop, List.length_take, List.length_map, List.length_append, List.length_cons, List.length_nil, List.length_replicate, List.length_set] <;> omega) | (simp only [push_cast] <;> omega) | fail) only [push_cast, reduceCtorEq, Nat.reduceAdd, Nat.reduceSub, Nat.reduceMul, Nat.reduceEqDiff, Nat.reduceLT, Nat.reduceLeDiff, Nat.reduceMod, Nat.reduceDiv, Int.reduceLE, Int.reduceLT, Int.reduceEq, Int.reduceToNat, Int.reduceAdd, Int.reduceSub, Int.reduceMul, Int.reduceNeg, t1, beq_self_eq_true] <;> rfl)) ?_
   refine yY ?_
   refine yF ?_
   refine yE (yB (yC (yJ (yK ?_))))
   refine vY (()) (wH ?_) ?_
   ·refine xB ?_ ?_ ?_ <;> simp [-List.map_set, -List.map_replicate, -List.reduceReplicate, -List.map_map, -List.map_drop, -List.map_take, rcT, wpT]
   ·trivial
  ·skip
   iterate 4 refine yF ?_
   iterate 3 refine yY ?_
   iterate 2 refine yF ?_
   iterate 3 refine yY ?_
   refine yY (hs := by (simp (disch := first | omega | (simp only [List.length_drop, List.length_take, List.length_map, List.length_append, List.length_cons, List.length_nil, List.length_replicate, List.length_set] <;> omega) | (simp only [push_cast] <;> omega) | fail) only [push_cast, reduceCtorEq, Nat.reduceAdd, Nat.reduceSub, Nat.reduceMul, Nat.reduceEqDiff, Nat.reduceLT, Nat.reduceLeDiff, Nat.reduceMod, Nat.reduceDiv, Int.reduceLE, Int.reduceLT, Int.reduceEq, Int.reduceToNat, Int.reduceAdd, Int.reduceSub, Int.reduceMul, Int.reduceNeg, show ¬ ((r.prev.length : Int) = 32) from by rw [p2]; decide] <;> rfl)) ?_
   iterate 7 refine yY ?_
   refine yY (hs := by (simp (disch := first | omega | (simp only [List.length_drop, List.length_take, List.length_map, List.length_append, List.length_cons, List.length_nil, List.length_replicate, List.length_set] <;> omega) | (simp only [push_cast] <;> omega) | fail) only [push_cast, reduceCtorEq, Nat.reduceAdd, Nat.reduceSub, Nat.reduceMul, Nat.reduceEqDiff, Nat.reduceLT, Nat.reduceLeDiff, Nat.reduceMod, Nat.reduceDiv, Int.reduceLE, Int.reduceLT, Int.reduceEq, Int.reduceToNat, Int.reduceAdd, Int.reduceSub, Int.reduceMul, Int.reduceNeg, p2, beq_self_eq_true] <;> rfl)) ?_
   iterate 2 refine yY ?_
   iterate 2 refine yF ?_
   iterate 4 refine yY ?_
   iterate 3 refine wI ?_
   refine yY ?_
   iterate 2 refine yF ?_
   iterate 3 refine yY ?_
   iterate 2 refine yF ?_
   iterate 3 refine yY ?_
   iterate 2 refine yF ?_
   iterate 5 refine yY ?_
   iterate 3 refine wI ?_
   refine yY ?_
   refine yF ?_
   refine yE (yB (yC (yJ (yK ?_))))
   refine vY (()) (wH ?_) ?_
   ·refine xB ?_ ?_ ?_ <;> simp [-List.map_set, -List.map_replicate, -List.reduceReplicate, -List.map_map, -List.map_drop, -List.map_take, rcT, wpT]
   ·trivial
  ·have t2 : r.tag.length = 0 := by rw [t1]; rfl
   iterate 4 refine yF ?_
   iterate 3 refine yY ?_
   iterate 2 refine yF ?_
   iterate 3 refine yY ?_
   refine yY (hs := by (simp (disch := first | omega | (simp only [List.length_drop, List.length_take, List.length_map, List.length_append, List.length_cons, List.length_nil, List.length_replicate, List.length_set] <;> omega) | (simp only [push_cast] <;> omega) | fail) only [push_cast, reduceCtorEq, Nat.reduceAdd, Nat.reduceSub, Nat.reduceMul, Nat.reduceEqDiff, Nat.reduceLT, Nat.reduceLeDiff, Nat.reduceMod, Nat.reduceDiv, Int.reduceLE, Int.reduceLT, Int.reduceEq, Int.reduceToNat, Int.reduceAdd, Int.reduceSub, Int.reduceMul, Int.reduceNeg, show ¬ ((r.prev.length : Int) = 32) from by rw [p2]; decide] <;> rfl)) ?_
   iterate 7 refine yY ?_
   refine yY (hs := by (simp (disch := first | omega | (simp only [List.length_drop, List.length_take, List.length_map, List.length_append, List.length_cons, List.length_nil, List.length_replicate, List.length_set] <;> omega) | (simp only [push_cast] <;> omega) | fail) only [push_cast, reduceCtorEq, Nat.reduceAdd, Nat.reduceSub, Nat.reduceMul, Nat.reduceEqDiff, Nat.reduceLT, Nat.reduceLeDiff, Nat.reduceMod, Nat.reduceDiv, Int.reduceLE, Int.reduceLT, Int.reduceEq, Int.reduceToNat, Int.reduceAdd, Int.reduceSub, Int.reduceMul, Int.reduceNeg, p2, beq_self_eq_true] <;> rfl)) ?_
   iterate 2 refine yY ?_
   iterate 2 refine yF ?_
   iterate 8 refine yY ?_
   iterate 2 refine yF ?_
   iterate 3 refine yY ?_
   iterate 2 refine yF ?_
   iterate 3 refine yY ?_
   iterate 2 refine yF ?_
   iterate 7 refine yY ?_
   refine yY (hs := by (simp (disch := first | omega | (simp only [List.length_drop, List.length_take, List.length_map, List.length_append, List.length_cons, List.length_nil, List.length_replicate, List.length_set] <;> omega) | (simp only [push_cast] <;> omega) | fail) only [push_cast, reduceCtorEq, Nat.reduceAdd, Nat.reduceSub, Nat.reduceMul, Nat.reduceEqDiff, Nat.reduceLT, Nat.reduceLeDiff, Nat.reduceMod, Nat.reduceDiv, Int.reduceLE, Int.reduceLT, Int.reduceEq, Int.reduceToNat, Int.reduceAdd, Int.reduceSub, Int.reduceMul, Int.reduceNeg, t1, beq_self_eq_true] <;> rfl)) ?_
   refine yY ?_
   refine yF ?_
   refine yE (yB (yC (yJ (yK ?_))))
   refine vY (()) (wH ?_) ?_
   ·refine xB ?_ ?_ ?_ <;> simp [-List.map_set, -List.map_replicate, -List.reduceReplicate, -List.map_map, -List.map_drop, -List.map_take, rcT, wpT]
   ·trivial
  ·skip
   iterate 4 refine yF ?_
   iterate 3 refine yY ?_
   iterate 2 refine yF ?_
   iterate 3 refine yY ?_
   refine yY (hs := by (simp (disch := first | omega | (simp only [List.length_drop, List.length_take, List.length_map, List.length_append, List.length_cons, List.length_nil, List.length_replicate, List.length_set] <;> omega) | (simp only [push_cast] <;> omega) | fail) only [push_cast, reduceCtorEq, Nat.reduceAdd, Nat.reduceSub, Nat.reduceMul, Nat.reduceEqDiff, Nat.reduceLT, Nat.reduceLeDiff, Nat.reduceMod, Nat.reduceDiv, Int.reduceLE, Int.reduceLT, Int.reduceEq, Int.reduceToNat, Int.reduceAdd, Int.reduceSub, Int.reduceMul, Int.reduceNeg, show ¬ ((r.prev.length : Int) = 32) from by rw [p2]; decide] <;> rfl)) ?_
   iterate 7 refine yY ?_
   refine yY (hs := by (simp (disch := first | omega | (simp only [List.length_drop, List.length_take, List.length_map, List.length_append, List.length_cons, List.length_nil, List.length_replicate, List.length_set] <;> omega) | (simp only [push_cast] <;> omega) | fail) only [push_cast, reduceCtorEq, Nat.reduceAdd, Nat.reduceSub, Nat.reduceMul, Nat.reduceEqDiff, Nat.reduceLT, Nat.reduceLeDiff, Nat.reduceMod, Nat.reduceDiv, Int.reduceLE, Int.reduceLT, Int.reduceEq, Int.reduceToNat, Int.reduceAdd, Int.reduceSub, Int.reduceMul, Int.reduceNeg, p2, beq_self_eq_true] <;> rfl)) ?_
   iterate 2 refine yY ?_
   iterate 2 refine yF ?_
   iterate 8 refine yY ?_
   iterate 2 refine yF ?_
   iterate 3 refine yY ?_
   iterate 2 refine yF ?_
   iterate 3 refine yY ?_
   iterate 2 refine yF ?_
   iterate 5 refine yY ?_
   iterate 3 refine wI ?_
   refine yY ?_
   refine yF ?_
   refine yE (yB (yC (yJ (yK ?_))))
   refine vY (()) (wH ?_) ?_
   ·refine xB ?_ ?_ ?_ <;> simp [-List.map_set, -List.map_replicate, -List.reduceReplicate, -List.map_map, -List.map_drop, -List.map_take, rcT, wpT]
   ·trivial
 ·intro _ _
  refine vP ?_
  refine yD (yD (yA rfl ?_))
  refine yF ?_
  refine yE (yB (yC (yI ?_)))
  refine xJ (fun sl L (i : Nat) => ⟨setAll (setBad sl [0, 2, 4, 5, 6, 7, 8, 9, 10, 11, 12, 13, 14, 15, 16, 17, 18, 19, 20, 21, 22, 23, 24, 25, 26, 27, 28, 29, 30, 31, 32, 33, 34, 35, 36, 37, 38, 39, 40, 41, 42, 43, 44, 45, 46, 47, 48, 49, 50, 51, 52, 53, 54, 55, 56, 57, 58, 59, 60, 61, 62, 63, 64, 65, 66, 67, 68, 69, 70, 71, 72, 73, 74, 75, 76, 77, 78, 79, 80, 81, 82, 83, 84, 85, 86, 87, 88, 89, 90, 91, 92, 93, 94, 95, 96, 97, 98, 99, 100, 101]) [(3, .t (num i))], Go.Ot.look (L)⟩) (fun i => i ≤ r.wraps.length) (fun i => r.wraps.length - i) (0) (wH ?_) ?_ ?_
  ·refine xB ?_ ?_ ?_ <;> simp [-List.map_set, -List.map_replicate, -List.reduceReplicate, -List.map_map, -List.map_drop, -List.map_take, rcT, wpT]
  ·(first | omega | simp)
  ·intro i hi
   refine vP ?_
   refine yD (yD (yA rfl ?_))
   iterate 5 refine yF ?_
   refine yE (yB (yC ?_))
   refine vQ (fun hc1 => ?_) (fun hc1 => ?_)
   ·(try simp only [Bool.and_eq_true, Bool.or_eq_true, Bool.or_eq_false_iff, Bool.not_eq_true', Bool.not_eq_false', xH, xI, Bool.and_eq_false_imp, beq_iff_eq, beq_eq_false_iff_ne, ne_eq] at hc1)
    refine yK (yC (yD (yI (yD (yA rfl ?_)))))
    iterate 5 refine yF ?_
    obtain ⟨e, he⟩ : ∃ e, r.wraps.getD i default = e := ⟨_, rfl⟩
    simp only [he]
    iterate 2 refine yF ?_
    refine yE (yB (yC (yD (yA rfl ?_))))
    have hw := wpOk_iff.1 (qU hm (i := i) (by omega))
    rw [he] at hw
    obtain ⟨g0, g1, g2, g3⟩ := hw
    rcases i with _ | k
    ·skip
     iterate 4 refine yU ?_
     iterate 3 refine vW ?_
     iterate 2 refine yU ?_
     iterate 4 refine vW ?_
     iterate 2 refine yU ?_
     iterate 3 refine vW ?_
     iterate 10 refine yCP ?_
     refine vW ?_
     refine yU ?_
     refine yE (xQ (by kernel_rfl) (yC (yJ (yK (yR (yC (yA rfl ?_)))))))
     iterate 3 refine yF ?_
     refine yE (yB ?_)
     refine xE (0 + 1) (wH ?_) ?_ ?_
     ·refine xB ?_ ?_ ?_ <;> simp [-List.map_set, -List.map_replicate, -List.reduceReplicate, -List.map_map, -List.map_drop, -List.map_take, rcT, wpT]
     ·(first | omega | (simp_all <;> omega))
     ·(first | omega | (simp only []; omega))
    ·have g4 := g3 (by omega)
     rw [Nat.add_sub_cancel] at g4
     iterate 4 refine yU ?_
     iterate 3 refine vW ?_
     iterate 2 refine yU ?_
     iterate 4 refine vW ?_
     iterate 2 refine yU ?_
     iterate 6 refine vW ?_
     refine vW (hs := by (simp (disch := first | omega | (simp only [List.length_drop, List.length_take, List.length_map, List.length_append, List.length_cons, List.length_nil, List.length_replicate, List.length_set] <;> omega) | (simp only [push_cast] <;> omega) | fail) only [push_cast, reduceCtorEq, Nat.reduceAdd, Nat.reduceSub, Nat.reduceMul, Nat.reduceEqDiff, Nat.reduceLT, Nat.reduceLeDiff, Nat.reduceMod, Nat.reduceDiv, Int.reduceLE, Int.reduceLT, Int.reduceEq, Int.reduceToNat, Int.reduceAdd, Int.reduceSub, Int.reduceMul, Int.reduceNeg, show ((k : Int) + 1 - 1) = k from by omega] <;> rfl)) ?_
     iterate 7 refine vW ?_
     refine yU ?_
     refine yE (xQ (by kernel_rfl) (yC (yJ (yK (yR (yC (yA rfl ?_)))))))
     iterate 3 refine yF ?_
     refine yE (yB ?_)
     refine xE (k + 1 + 1) (wH ?_) ?_ ?_
     ·refine xB ?_ ?_ ?_ <;> simp [-List.map_set, -List.map_replicate, -List.reduceReplicate, -List.map_map, -List.map_drop, -List.map_take, rcT, wpT]
     ·(first | omega | (simp_all <;> omega))
     ·(first | omega | (simp only []; omega))
   ·(try simp only [Bool.and_eq_true, Bool.or_eq_true, Bool.or_eq_false_iff, Bool.not_eq_true', Bool.not_eq_false', xH, xI, Bool.and_eq_false_imp, beq_iff_eq, beq_eq_false_iff_ne, ne_eq] at hc1)
    refine xS (yM (yN (yL (yC (yD (yA rfl ?_))))))
    refine yF ?_
    refine yE (yB (yC (yP ?_)))
    refine ⟨.inr rfl, yT [] (by rw [results44]) ?_ ?_ ?_⟩ <;> simp [-List.map_set, -List.map_replicate, -List.reduceReplicate, -List.map_map, -List.map_drop, -List.map_take, rcT, wpT]
theorem sC (Γ : Gl) (n : Int) : Go.Ot.Good Γ prog 42 [.t (num n)] [] (wA (.mk 1 n [] [])) [] [] := by
 refine yQ F.mix func42 (by rfl) ntmps42 ?_
 refine yD (yA rfl ?_)
 refine yF ?_
 refine yE (yB (yC (yD (yA rfl ?_))))
 iterate 3 refine yF ?_
 refine yE (yB (yC (yP ?_)))
 refine ⟨.inr rfl, yT [] (by rw [results42]) ?_ ?_ ?_⟩ <;> simp [-List.map_set, -List.map_replicate, -List.reduceReplicate, -List.map_map, -List.map_drop, -List.map_take, Wr.cellsL_len, wA, Wr.k_mk, Wr.n_mk, Wr.s_mk, Wr.l_mk, Wr.cellsL, Wr.z_eq]
theorem nI (Γ : Gl) (s : List UInt8) : Go.Ot.Good Γ prog 43 [.t (txt s)] [] (wA (.mk 2 0 s [])) [] [] := by
 refine yQ F.mix func43 (by rfl) ntmps43 ?_
 refine yD (yA rfl ?_)
 refine yF ?_
 refine yE (yB (yC (yD (yA rfl ?_))))
 iterate 3 refine yF ?_
 refine yE (yB (yC (yP ?_)))
 refine ⟨.inr rfl, yT [] (by rw [results43]) ?_ ?_ ?_⟩ <;> simp [-List.map_set, -List.map_replicate, -List.reduceReplicate, -List.map_map, -List.map_drop, -List.map_take, Wr.cellsL_len, wA, Wr.k_mk, Wr.n_mk, Wr.s_mk, Wr.l_mk, Wr.cellsL, Wr.z_eq]
theorem nJ (Γ : Gl) (l : List Wr) : Go.Ot.Good Γ prog 41 [wS l] [] (wA (.mk 3 0 [] l)) [] [] := by
 refine yQ F.mix func41 (by rfl) ntmps41 ?_
 refine yD (yA rfl ?_)
 refine yF ?_
 refine yE (yB (yC (yD (yA rfl ?_))))
 iterate 3 refine yF ?_
 refine yE (yB (yC (yP ?_)))
 refine ⟨.inr rfl, yT [] (by rw [results41]) ?_ ?_ ?_⟩ <;> simp [-List.map_set, -List.map_replicate, -List.reduceReplicate, -List.map_map, -List.map_drop, -List.map_take, Wr.cellsL_len, wA, Wr.k_mk, Wr.n_mk, Wr.s_mk, Wr.l_mk, Wr.cellsL, Wr.z_eq, wS]
theorem yFE (Γ : Gl) (r : Rc) (hp : rcP r) : Go.Ot.Good Γ prog 16 [.agg [.t (num r.seq), .t (txt r.prev), .t (num r.kind), .t (num r.dev), .t (.sl r.wraps.length (r.wraps.flatMap wpT)), .t (txt r.tag)]] [] (.t (txt (rcF r))) [] [] := by
 have hwl := (sV hp.2.2.2.2.2.2).1
 refine yQ F.mix func16 (by rfl) ntmps16 ?_
 refine yD (yA rfl ?_)
 iterate 2 refine yF ?_
 refine yE (yB (yC (yD (yD (yA rfl ?_)))))
 refine yF ?_
 refine yS [] false (yCg Γ r hp) ?_
 refine yF ?_
 refine yE (yB (yC (yJ (yK (yC (yD (yA rfl ?_)))))))
 refine yF ?_
 refine yE (yB (yC (yD (yD (yA rfl ?_)))))
 refine yF ?_
 refine yE (yB (yC (yI ?_)))
 refine xJ (fun sl L (i : Nat) => ⟨setAll (setBad sl [0, 5, 6, 7, 8, 9, 10, 11, 12, 13, 14, 15, 16, 17, 18, 19, 20, 21, 22, 23, 24, 25, 26, 27, 28, 29, 30, 31, 32, 33]) [(3, .msl (.n 9) 0 i 4), (4, .t (num i))], Go.Ot.look (vO (.n 9) (lK (wpW (r.wraps.take i))) L)⟩) (fun i => i ≤ r.wraps.length) (fun i => r.wraps.length - i) (0) (wH ?_) ?_ ?_
 ·refine wT [(.r 0 0 0, .r 0 0 0)] ?_ ?_ ?_ <;> simp [-List.map_set, -List.map_replicate, -List.reduceReplicate, -List.map_map, -List.map_drop, -List.map_take, Wr.cellsL_len, wA, Wr.k_mk, Wr.n_mk, Wr.s_mk, Wr.l_mk, Wr.cellsL, Wr.z_eq, rcT, wpT, lK, wpW_nil]
 ·(first | omega | simp)
 ·intro i hi
  refine vP ?_
  refine yD (yD (yA rfl ?_))
  iterate 5 refine yF ?_
  refine yE (yB (yC ?_))
  refine vQ (fun hc1 => ?_) (fun hc1 => ?_)
  ·(try simp only [Bool.and_eq_true, Bool.or_eq_true, Bool.or_eq_false_iff, Bool.not_eq_true', Bool.not_eq_false', xH, xI, Bool.and_eq_false_imp, beq_iff_eq, beq_eq_false_iff_ne, ne_eq] at hc1)
   refine yK (yC (yD (yI ?_)))
   refine tI (.n 9) [3, 15] [] rfl ?_
   iterate 7 refine nM ?_
   refine vC [] [] [] false (sC Γ (r.wraps.getD i default).dev) ?_
   iterate 6 refine nM ?_
   refine vC [] [] [] false (nI Γ (r.wraps.getD i default).box) ?_
   refine nM ?_
   refine vC [] [.r 7 15 0] [] true (nJ Γ [.mk 1 (r.wraps.getD i default).dev [] [], .mk 2 0 (r.wraps.getD i default).box []]) ?_
   iterate 3 refine nM ?_
   refine kJ ⟨yCU (by kernel_rfl) (by kernel_rfl), ?_⟩
   refine yR (yC (yA rfl ?_))
   iterate 3 refine yF ?_
   refine yE (yB ?_)
   have hil : i < r.wraps.length := by omega
   have hnx := yA2 hil
   refine xE (i + 1) (wH ?_) ?_ ?_
   ·refine wT [(.r 0 0 0, .r 0 0 0), (.n 9, .n 9)] ?_ ?_ ?_ <;> simp [-List.map_set, -List.map_replicate, -List.reduceReplicate, -List.map_map, -List.map_drop, -List.map_take, Wr.cellsL_len, wA, Wr.k_mk, Wr.n_mk, Wr.s_mk, Wr.l_mk, Wr.cellsL, Wr.z_eq, rcT, wpT, lK, hnx, tE, wC, Wr.cells]
   ·(first | omega | (simp_all <;> omega))
   ·(first | omega | (simp only []; omega))
  ·(try simp only [Bool.and_eq_true, Bool.or_eq_true, Bool.or_eq_false_iff, Bool.not_eq_true', Bool.not_eq_false', xH, xI, Bool.and_eq_false_imp, beq_iff_eq, beq_eq_false_iff_ne, ne_eq] at hc1)
   refine xS (yM (yN (yL (yC (yD (yA rfl ?_))))))
   have hil : i = r.wraps.length := by omega
   subst hil
   simp only [List.take_length]
   iterate 2 refine yU ?_
   refine yV [] false (sC Γ r.seq) ?_
   iterate 2 refine yU ?_
   refine yV [] false (nI Γ r.prev) ?_
   iterate 2 refine yU ?_
   refine yV [] false (sC Γ r.kind) ?_
   iterate 2 refine yU ?_
   refine yV [] false (sC Γ r.dev) ?_
   refine yU ?_
   refine yV [.n 9] true (nJ Γ (wpW r.wraps)) ?_ (hv := by (simp (disch := first | omega | (simp only [List.length_drop, List.length_take, List.length_map, List.length_append, List.length_cons, List.length_nil, List.length_replicate, List.length_set] <;> omega) | fail) [-List.map_map, -List.map_drop, -List.map_take, VwL_cons, xO, wB, uB, xX, xY, xW, Vw_agg, xV, xZ, xC, VwL_refl_map, yZ, xM, xN, wQ, xL, yX, xF, yW, VwTs_app, List.take_of_length_le, srcL, notIn, ObsVw, SrcOk, pOk, Go.Ot.look, resP, resN, ev, evc, mkS, push_cast, List.take_of_length_le, eI, jA] <;> (try omega)))
   iterate 2 refine yU ?_
   refine yV [] false (nI Γ r.tag) ?_
   refine yU ?_
   refine yV [.r 8 17 0] true (nJ Γ [.mk 1 r.seq [] [], .mk 2 0 r.prev [], .mk 1 r.kind [] [], .mk 1 r.dev [] [], .mk 3 0 [] (wpW r.wraps), .mk 2 0 r.tag []]) ?_
   refine yV [] false (lC Γ (.mk 3 0 [] [.mk 1 r.seq [] [], .mk 2 0 r.prev [], .mk 1 r.kind [] [], .mk 1 r.dev [] [], .mk 3 0 [] (wpW r.wraps), .mk 2 0 r.tag []]) (by simp [Wr.szL, Wr.sz, szL_wpW]; omega) (fun _ => Nat.le_trans (show (putW 6 (rcW r)).length ≤ 2000 from dG hp) (by omega))) ?_
   refine yU ?_
   refine yE (xQ (by kernel_rfl) (yC (yP ?_)))
   refine ⟨.inr rfl, yT [] (by rw [results16]) ?_ ?_ ?_⟩ <;> simp [-List.map_set, -List.map_replicate, -List.reduceReplicate, -List.map_map, -List.map_drop, -List.map_take, rcT, wpT, yDs hp, rcW]
theorem yEg (Γ : Gl) (r : Rc) (hp : rcP r) : Go.Ot.Good Γ prog 78 [.agg [.t (num r.seq), .t (txt r.prev), .t (num r.kind), .t (num r.dev), .t (.sl r.wraps.length (r.wraps.flatMap wpT)), .t (txt r.tag)]] [] (.t (txt (hsh r))) [] [] := by
 have hrl := nS r
 refine yQ F.mix func78 (by rfl) ntmps78 ?_
 refine yD (yA rfl ?_)
 iterate 2 refine yF ?_
 refine yE (yB (yC (yD (yA rfl ?_))))
 refine yF ?_
 refine yS [] false (yFE Γ r hp) ?_
 refine yS [] false (nD Γ (rcF r) (by omega)) ?_
 refine yF ?_
 refine yE (yB (yC (yP ?_)))
 refine ⟨.inr rfl, yT [] (by rw [results78]) ?_ ?_ ?_⟩ <;> simp [-List.map_set, -List.map_replicate, -List.reduceReplicate, -List.map_map, -List.map_drop, -List.map_take, rcT, wpT, hsh]
theorem yIS (Γ : Gl) (r : Rc) (hp : rcP r) : Go.Ot.Good Γ prog 83 [.agg [.t (num r.seq), .t (txt r.prev), .t (num r.kind), .t (num r.dev), .t (.sl r.wraps.length (r.wraps.flatMap wpT)), .t (txt r.tag)]] [] (.t (txt (hdF r))) [] [] := by
 refine yQ F.mix func83 (by rfl) ntmps83 ?_
 refine yD (yA rfl ?_)
 iterate 2 refine yF ?_
 refine yE (yB (yC (yD (yD (yA rfl ?_)))))
 refine yF ?_
 refine yS [] false (yCg Γ r hp) ?_
 refine yF ?_
 refine yE (yB (yC (yJ (yK (yC (yD (yA rfl ?_)))))))
 iterate 2 refine yU ?_
 refine yV [] false (sC Γ r.seq) ?_
 iterate 2 refine yU ?_
 refine yV [] false (sC Γ r.kind) ?_
 iterate 2 refine yU ?_
 refine yV [] false (sC Γ r.dev) ?_
 iterate 2 refine yU ?_
 refine yV [] false (nI Γ r.prev) ?_
 refine yU ?_
 refine yV [.r 3 12 0] true (nJ Γ [.mk 1 r.seq [] [], .mk 1 r.kind [] [], .mk 1 r.dev [] [], .mk 2 0 r.prev []]) ?_
 refine yV [] false (lC Γ (.mk 3 0 [] [.mk 1 r.seq [] [], .mk 1 r.kind [] [], .mk 1 r.dev [] [], .mk 2 0 r.prev []]) (by simp [Wr.szL, Wr.sz]) (fun _ => Nat.le_trans (show (putW 6 (hdW r)).length ≤ 2000 from yBG hp) (by omega))) ?_
 refine yU ?_
 refine yE (xQ (by kernel_rfl) (yC (yP ?_)))
 refine ⟨.inr rfl, yT [] (by rw [results83]) ?_ ?_ ?_⟩ <;> simp [-List.map_set, -List.map_replicate, -List.reduceReplicate, -List.map_map, -List.map_drop, -List.map_take, rcT, wpT, hdW, hdF_t hp]
theorem tagRP (Γ : Gl) (key : List UInt8) (hk : key.length ≤ 1000) (q : Int) (p : List UInt8) (k d : Int) (w : List Wp) (hp : rcP ⟨q, p, k, d, w, []⟩) : Go.Ot.Good Γ prog 85 [.t (txt key), .agg [.t (num q), .t (txt p), .t (num k), .t (num d), .t (.sl w.length (w.flatMap wpT)), .t (txt [])]] [] (.t (txt ((Cy.hmacB key (rcF ⟨q, p, k, d, w, []⟩)).take 16))) [] [] := by
 have hrl := nS (⟨q, p, k, d, w, []⟩ : Rc)
 have hml := Cy.hmacB_len key (rcF (⟨q, p, k, d, w, []⟩ : Rc))
 refine yQ F.mix func85 (by rfl) ntmps85 ?_
 refine yD (yA rfl ?_)
 iterate 2 refine yF ?_
 refine yE (yB (yC (yD (yD (yA rfl ?_)))))
 refine yF ?_
 refine yS [] false (yCg Γ (⟨q, p, k, d, w, []⟩ : Rc) hp) ?_
 refine yF ?_
 refine yE (yB (yC (yJ (yK (yC (yD (yA rfl ?_)))))))
 iterate 2 refine yF ?_
 refine yE (yB (yC (yD (yA rfl ?_))))
 iterate 2 refine yF ?_
 refine yS [] false (yFE Γ (⟨q, p, k, d, w, []⟩ : Rc) hp) ?_
 refine yS [] false (Cy.refmac_good Γ key (rcF (⟨q, p, k, d, w, []⟩ : Rc)) (by omega) (by omega)) ?_
 iterate 2 refine yF ?_
 refine yE (yB (yC (yP ?_)))
 refine ⟨.inr rfl, yT [] (by rw [results85]) ?_ ?_ ?_⟩ <;> simp [-List.map_set, -List.map_replicate, -List.reduceReplicate, -List.map_map, -List.map_drop, -List.map_take, rcT, wpT]
end Go.Proofs.Tryz

namespace Go.Proofs.Tryz
open Go Go.Ot
attribute [local simp] num bol txt w8 w16 w32 w64 lst cls wG wD List.take_of_length_le
attribute [local irreducible] wpK wpS uO wJ wY wO vF xA Le rdS lpW rdW got tL mayW tH putW nb u64 pE mwB sha rcF hdF hsh RG inF chC fl lkT wpW Cy.hmacB inR inB ckB vJ
theorem yEM (Γ : Gl) (log : List Rc) (hck : ckB log = true) : Go.Ot.Good Γ prog 77 [.t (.sl log.length (log.flatMap rcT))] [] (.t (bol true)) [] [] := by
 have h40 := (sM hck).1
 refine yQ F.mix func77 (by rfl) ntmps77 ?_
 refine yD (yA rfl ?_)
 refine yF ?_
 refine yE (yB (yC (yD (yD (yA rfl ?_)))))
 iterate 3 refine yF ?_
 refine yE (yB (yC (yJ (yK (yC (yD (yA rfl ?_)))))))
 refine yF ?_
 refine yE (yB (yC (yD (yD (yA rfl ?_)))))
 refine yF ?_
 refine yE (yB (yC (yI ?_)))
 refine xJ (fun sl L (i : Nat) => ⟨setAll (setBad sl [2, 5, 6, 7, 8, 9, 10, 11, 12, 13, 14, 15, 16, 17, 18, 19, 20, 21, 22, 23, 24, 25, 26, 27, 28, 29, 30, 31, 32, 33, 34, 35, 36, 37, 38, 39, 40, 41, 42, 43, 44, 45, 46, 47, 48, 49, 50, 51, 52, 53, 54, 55, 56, 57, 58, 59, 60, 61, 62, 63, 64, 65, 66, 67, 68, 69, 70, 71, 72, 73, 74, 75, 76, 77, 78]) [(3, .t (txt (vJ log i))), (4, .t (num i))], Go.Ot.look (L)⟩) (fun i => i ≤ log.length) (fun i => log.length - i) (0) (wH ?_) ?_ ?_
 ·refine xB ?_ ?_ ?_ <;> simp [-List.map_set, -List.map_replicate, -List.reduceReplicate, -List.map_map, -List.map_drop, -List.map_take, rcT, wpT, vJ]
 ·(first | omega | simp)
 ·intro i hi
  refine vP ?_
  refine yD (yD (yA rfl ?_))
  iterate 4 refine yF ?_
  refine yE (yB (yC ?_))
  refine vQ (fun hc1 => ?_) (fun hc1 => ?_)
  ·(try simp only [Bool.and_eq_true, Bool.or_eq_true, Bool.or_eq_false_iff, Bool.not_eq_true', Bool.not_eq_false', xH, xI, Bool.and_eq_false_imp, beq_iff_eq, beq_eq_false_iff_ne, ne_eq] at hc1)
   refine yK (yC (yD (yI (yD (yA rfl ?_)))))
   iterate 4 refine yF ?_
   obtain ⟨r, he⟩ : ∃ r, log.getD i default = r := ⟨_, rfl⟩
   simp only [he]
   iterate 2 refine yF ?_
   refine yE (yB (yC (yD (yD (yA rfl ?_)))))
   have hr' : i < log.length := by omega
   have hok := aY ((sM hck).2 i hr')
   rw [he] at hok
   obtain ⟨g1, ⟨g2, g3'⟩, hno⟩ := hok
   have g3 : (r.prev == vJ log i) = true := by rw [g3']; exact beq_self_eq_true _
   have hcn : (inF log i).contains r.dev = decide (r.kind = 2) := Classical.byContradiction (fun h => hno (.inr (.inr h)))
   have hpn := yIu he
   rcases (show (i = 0 ∧ r.kind = 1 ∧ r.dev = 0) ∨ (i ≠ 0 ∧ r.kind = 1) ∨ (i ≠ 0 ∧ r.kind = 2 ∧ r.dev ≠ 0) from by
    have h1 := g1.2.2.2.1
    have h2 : ¬ (i = 0 ∧ (r.kind ≠ 1 ∨ r.dev ≠ 0)) := fun h => hno (.inl h)
    have h3 : ¬ (r.kind = 2 ∧ r.dev = 0) := fun h => hno (.inr (.inl h))
    rcases h1 with h1 | h1 <;> omega) with ⟨g4, g5, g6⟩ | ⟨g4, g5⟩ | ⟨g4, g5, g6⟩
   ·have hin : inB (log.take i) i r.dev = false := by
     rw [yBF (by omega) (fun j hj => (sM hck).2 j (by omega)) g1.2.2.2.2.1, hcn, g5]; decide
    refine yF ?_
    refine yS [] false (yCg Γ r g1) ?_
    iterate 2 refine yF ?_
    iterate 5 refine yY ?_
    iterate 2 refine yF ?_
    iterate 3 refine yY ?_
    refine yY (hs := by (simp (disch := first | omega | (simp only [List.length_drop, List.length_take, List.length_map, List.length_append, List.length_cons, List.length_nil, List.length_replicate, List.length_set] <;> omega) | (simp only [push_cast] <;> omega) | fail) only [push_cast, reduceCtorEq, Nat.reduceAdd, Nat.reduceSub, Nat.reduceMul, Nat.reduceEqDiff, Nat.reduceLT, Nat.reduceLeDiff, Nat.reduceMod, Nat.reduceDiv, Int.reduceLE, Int.reduceLT, Int.reduceEq, Int.reduceToNat, Int.reduceAdd, Int.reduceSub, Int.reduceMul, Int.reduceNeg, g3] <;> rfl)) ?_
    iterate 2 refine yF ?_
    iterate 12 refine yY ?_
    refine yF ?_
    refine yE (yB (yC (yJ (yK (yC (yD (yA rfl ?_)))))))
    have htk := dF (log := log) (i := i) (by omega)
    have hlt : (log.take i).length = i := by rw [List.length_take]; omega
    iterate 6 refine yU ?_
    refine yV [] false ((by have h := uW Γ (log.take i) i r.dev (by omega); rw [hin] at h; exact h)) ?_ (hv := by (simp (disch := first | omega | (simp only [List.length_drop, List.length_take, List.length_map, List.length_append, List.length_cons, List.length_nil, List.length_replicate, List.length_set] <;> omega) | fail) [-List.map_map, -List.map_drop, -List.map_take, VwL_cons, xO, wB, uB, xX, xY, xW, Vw_agg, xV, xZ, xC, VwL_refl_map, yZ, xM, xN, wQ, xL, yX, xF, yW, VwTs_app, List.take_of_length_le, srcL, notIn, ObsVw, SrcOk, pOk, Go.Ot.look, resP, resN, ev, evc, mkS, push_cast, List.take_of_length_le, htk, hlt, -List.length_flatMap] <;> (try omega)))
    refine yU ?_
    refine yE (xQ (by kernel_rfl) (yC (yD (yD (yA rfl ?_)))))
    iterate 4 refine yF ?_
    refine yY ?_
    iterate 2 refine yF ?_
    iterate 4 refine yY ?_
    iterate 7 refine wI ?_
    refine yY ?_
    refine yF ?_
    refine yE (yB (yC (yJ (yK (yC (yA rfl ?_))))))
    refine yF ?_
    refine yS [] false (yEg Γ r g1) ?_
    refine yF ?_
    refine yE (yB (yR (yC (yA rfl ?_))))
    iterate 3 refine yF ?_
    refine yE (yB ?_)
    refine xE (i + 1) (wH ?_) ?_ ?_
    ·refine xB ?_ ?_ ?_ <;> simp [-List.map_set, -List.map_replicate, -List.reduceReplicate, -List.map_map, -List.map_drop, -List.map_take, rcT, wpT, hpn]
    ·(first | omega | (simp_all <;> omega))
    ·(first | omega | (simp only []; omega))
   ·have hin : inB (log.take i) i r.dev = false := by
     rw [yBF (by omega) (fun j hj => (sM hck).2 j (by omega)) g1.2.2.2.2.1, hcn, g5]; decide
    refine yF ?_
    refine yS [] false (yCg Γ r g1) ?_
    iterate 2 refine yF ?_
    iterate 5 refine yY ?_
    iterate 2 refine yF ?_
    iterate 3 refine yY ?_
    refine yY (hs := by (simp (disch := first | omega | (simp only [List.length_drop, List.length_take, List.length_map, List.length_append, List.length_cons, List.length_nil, List.length_replicate, List.length_set] <;> omega) | (simp only [push_cast] <;> omega) | fail) only [push_cast, reduceCtorEq, Nat.reduceAdd, Nat.reduceSub, Nat.reduceMul, Nat.reduceEqDiff, Nat.reduceLT, Nat.reduceLeDiff, Nat.reduceMod, Nat.reduceDiv, Int.reduceLE, Int.reduceLT, Int.reduceEq, Int.reduceToNat, Int.reduceAdd, Int.reduceSub, Int.reduceMul, Int.reduceNeg, g3] <;> rfl)) ?_
    iterate 2 refine yF ?_
    iterate 3 refine yY ?_
    iterate 8 refine wI ?_
    refine yY ?_
    refine yF ?_
    refine yE (yB (yC (yJ (yK (yC (yD (yA rfl ?_)))))))
    have htk := dF (log := log) (i := i) (by omega)
    have hlt : (log.take i).length = i := by rw [List.length_take]; omega
    iterate 6 refine yU ?_
    refine yV [] false ((by have h := uW Γ (log.take i) i r.dev (by omega); rw [hin] at h; exact h)) ?_ (hv := by (simp (disch := first | omega | (simp only [List.length_drop, List.length_take, List.length_map, List.length_append, List.length_cons, List.length_nil, List.length_replicate, List.length_set] <;> omega) | fail) [-List.map_map, -List.map_drop, -List.map_take, VwL_cons, xO, wB, uB, xX, xY, xW, Vw_agg, xV, xZ, xC, VwL_refl_map, yZ, xM, xN, wQ, xL, yX, xF, yW, VwTs_app, List.take_of_length_le, srcL, notIn, ObsVw, SrcOk, pOk, Go.Ot.look, resP, resN, ev, evc, mkS, push_cast, List.take_of_length_le, htk, hlt, -List.length_flatMap] <;> (try omega)))
    refine yU ?_
    refine yE (xQ (by kernel_rfl) (yC (yD (yD (yA rfl ?_)))))
    iterate 4 refine yF ?_
    refine yY ?_
    iterate 2 refine yF ?_
    iterate 4 refine yY ?_
    iterate 7 refine wI ?_
    refine yY ?_
    refine yF ?_
    refine yE (yB (yC (yJ (yK (yC (yA rfl ?_))))))
    refine yF ?_
    refine yS [] false (yEg Γ r g1) ?_
    refine yF ?_
    refine yE (yB (yR (yC (yA rfl ?_))))
    iterate 3 refine yF ?_
    refine yE (yB ?_)
    refine xE (i + 1) (wH ?_) ?_ ?_
    ·refine xB ?_ ?_ ?_ <;> simp [-List.map_set, -List.map_replicate, -List.reduceReplicate, -List.map_map, -List.map_drop, -List.map_take, rcT, wpT, hpn]
    ·(first | omega | (simp_all <;> omega))
    ·(first | omega | (simp only []; omega))
   ·have hin : inB (log.take i) i r.dev = true := by
     rw [yBF (by omega) (fun j hj => (sM hck).2 j (by omega)) g1.2.2.2.2.1, hcn, g5]; decide
    refine yF ?_
    refine yS [] false (yCg Γ r g1) ?_
    iterate 2 refine yF ?_
    iterate 5 refine yY ?_
    iterate 2 refine yF ?_
    iterate 3 refine yY ?_
    refine yY (hs := by (simp (disch := first | omega | (simp only [List.length_drop, List.length_take, List.length_map, List.length_append, List.length_cons, List.length_nil, List.length_replicate, List.length_set] <;> omega) | (simp only [push_cast] <;> omega) | fail) only [push_cast, reduceCtorEq, Nat.reduceAdd, Nat.reduceSub, Nat.reduceMul, Nat.reduceEqDiff, Nat.reduceLT, Nat.reduceLeDiff, Nat.reduceMod, Nat.reduceDiv, Int.reduceLE, Int.reduceLT, Int.reduceEq, Int.reduceToNat, Int.reduceAdd, Int.reduceSub, Int.reduceMul, Int.reduceNeg, g3] <;> rfl)) ?_
    iterate 2 refine yF ?_
    iterate 3 refine yY ?_
    iterate 8 refine wI ?_
    refine yY ?_
    refine yF ?_
    refine yE (yB (yC (yJ (yK (yC (yD (yA rfl ?_)))))))
    have htk := dF (log := log) (i := i) (by omega)
    have hlt : (log.take i).length = i := by rw [List.length_take]; omega
    iterate 6 refine yU ?_
    refine yV [] false ((by have h := uW Γ (log.take i) i r.dev (by omega); rw [hin] at h; exact h)) ?_ (hv := by (simp (disch := first | omega | (simp only [List.length_drop, List.length_take, List.length_map, List.length_append, List.length_cons, List.length_nil, List.length_replicate, List.length_set] <;> omega) | fail) [-List.map_map, -List.map_drop, -List.map_take, VwL_cons, xO, wB, uB, xX, xY, xW, Vw_agg, xV, xZ, xC, VwL_refl_map, yZ, xM, xN, wQ, xL, yX, xF, yW, VwTs_app, List.take_of_length_le, srcL, notIn, ObsVw, SrcOk, pOk, Go.Ot.look, resP, resN, ev, evc, mkS, push_cast, List.take_of_length_le, htk, hlt, -List.length_flatMap] <;> (try omega)))
    refine yU ?_
    refine yE (xQ (by kernel_rfl) (yC (yD (yD (yA rfl ?_)))))
    iterate 4 refine yF ?_
    refine wI ?_
    iterate 2 refine yF ?_
    iterate 12 refine yY ?_
    refine yF ?_
    refine yE (yB (yC (yJ (yK (yC (yA rfl ?_))))))
    refine yF ?_
    refine yS [] false (yEg Γ r g1) ?_
    refine yF ?_
    refine yE (yB (yR (yC (yA rfl ?_))))
    iterate 3 refine yF ?_
    refine yE (yB ?_)
    refine xE (i + 1) (wH ?_) ?_ ?_
    ·refine xB ?_ ?_ ?_ <;> simp [-List.map_set, -List.map_replicate, -List.reduceReplicate, -List.map_map, -List.map_drop, -List.map_take, rcT, wpT, hpn]
    ·(first | omega | (simp_all <;> omega))
    ·(first | omega | (simp only []; omega))
  ·(try simp only [Bool.and_eq_true, Bool.or_eq_true, Bool.or_eq_false_iff, Bool.not_eq_true', Bool.not_eq_false', xH, xI, Bool.and_eq_false_imp, beq_iff_eq, beq_eq_false_iff_ne, ne_eq] at hc1)
   refine xS (yM (yN (yL (yC (yD (yA rfl ?_))))))
   refine yF ?_
   refine yE (yB (yC (yP ?_)))
   refine ⟨.inr rfl, yT [] (by rw [results77]) ?_ ?_ ?_⟩ <;> simp [-List.map_set, -List.map_replicate, -List.reduceReplicate, -List.map_map, -List.map_drop, -List.map_take, rcT, wpT]
end Go.Proofs.Tryz
