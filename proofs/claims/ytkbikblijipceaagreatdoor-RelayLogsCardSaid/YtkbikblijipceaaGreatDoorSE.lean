/- Contracts of this program's functions. -/
import Derived.Test.YtkbikblijipceaaGreatDoorSD
import Derived.Test.YtkbikblijipceaaGreatDoorSH
import Derived.Test.YtkbikblijipceaaGreatDoorOtD
set_option maxHeartbeats 4000000
set_option maxRecDepth 100000
set_option linter.unusedVariables false
set_option linter.unusedSimpArgs false
namespace Go.Proofs.Tryz
open Go Go.Ot
attribute [local simp] num bol txt w8 w16 w32 w64 lst cls wE xZ List.take_of_length_le
attribute [local irreducible] wpK wpS uI wH wW wM vB xA Le wV tP lC qY dW chunks takeB aK yAp sha uG
theorem yDL (Γ : Gl) (xs : List (List UInt8)) (hn : xs.length ≤ 140737488355328) (hl : xs.flatten.length ≤ 140737488355328) : Go.Ot.Good Γ prog 172 [.t (lst txt xs), .t (txt [])] [] (.t (txt xs.flatten)) [] [] := yDY Tryz.strings_Join_none Tryz.strings_Join xs hn hl
theorem yAg (Γ : Gl) (b : UInt8) (n : Nat) (hn : n ≤ 140737488355328) : Go.Ot.Good Γ prog 173 [.t (txt [b]), .t (num n)] [] (.t (txt (List.replicate n b))) [] [] := yAy Tryz.strings_Repeat b n hn
theorem yEY (Γ : Gl) (xs : List (List UInt8)) (hn : xs.length ≤ 1000000000) (hl : xs.flatten.length ≤ 1000000000) : Go.Ot.Good Γ prog 169 [.t (lst txt xs)] [] (.t (txt (sha xs.flatten))) [] [] := by
 refine yQ F.mix func169 (by rfl) ntmps169 ?_
 refine yD (yA rfl ?_)
 refine yF ?_
 refine yE (yB (yC (yD (yA rfl ?_))))
 refine yF ?_
 refine yS [] false (yDL Γ xs (by omega) (by omega)) ?_
 refine yF ?_
 refine yE (yB (yC (yD (yA rfl ?_))))
 iterate 2 refine yF ?_
 refine yG7 ?_
 iterate 2 refine yF ?_
 refine yE (yB (yC (yD (yA rfl ?_))))
 iterate 3 refine yF ?_
 refine yE (yB (yC (yD (yA rfl ?_))))
 iterate 6 refine yF ?_
 refine yS [] false (yAg Γ 0 ((120 - (xs.flatten.length + 1) % 64) % 64) (by omega)) ?_
 iterate 2 refine yF ?_
 refine yE (yB (yC (yD (yD (yA rfl ?_)))))
 refine yF ?_
 refine yE (yB (yC (yI ?_)))
 refine xJ (fun sl L (j : Nat) => ⟨setAll (setBad sl [0, 11, 12, 13, 14, 15, 16, 17, 18, 19, 20, 21, 22, 23, 24, 25, 26, 27, 28, 29, 30, 31, 32, 33, 34, 35, 36, 37, 38, 39]) [(5, .t (num (7 - (j : Int)))), (3, .t (txt (xs.flatten ++ [128] ++ List.replicate ((120 - (xs.flatten.length + 1) % 64) % 64) 0 ++ aK (UInt64.ofInt xs.flatten.length * 8) j)))], Go.Ot.look (L)⟩) (fun j => j ≤ 8) (fun j => 8 - j) (0) (wF ?_) ?_ ?_
 ·refine xB ?_ ?_ ?_ <;> simp [-List.map_set, -List.map_replicate, -List.reduceReplicate, -List.map_map, -List.map_drop, -List.map_take, aK] <;> (try omega)
 ·(first | omega | simp)
 ·intro j hj
  refine vK ?_
  refine yD (yD (yA rfl ?_))
  iterate 2 refine yF ?_
  refine yE (yB (yC ?_))
  refine vL (fun hc0 => ?_) (fun hc0 => ?_)
  ·(try simp only [Bool.and_eq_true, Bool.or_eq_true, Bool.or_eq_false_iff, Bool.not_eq_true', Bool.not_eq_false', xH, xI, Bool.and_eq_false_imp, beq_iff_eq, beq_eq_false_iff_ne, ne_eq] at hc0)
   refine yK (yC (yD (yI (yA rfl ?_))))
   iterate 7 refine yF ?_
   first | refine sW ?_ | refine uN ?_
   iterate 2 refine yF ?_
   refine yE (yB (yR (yC (yA rfl ?_))))
   iterate 3 refine yF ?_
   refine yE (yB ?_)
   refine xE (j + 1) (wF ?_) ?_ ?_
   ·refine xB ?_ ?_ ?_ <;> simp [-List.map_set, -List.map_replicate, -List.reduceReplicate, -List.map_map, -List.map_drop, -List.map_take, aK] <;> (try omega)
   ·(first | omega | (simp_all <;> omega))
   ·(first | omega | (simp only []; omega))
  ·(try simp only [Bool.and_eq_true, Bool.or_eq_true, Bool.or_eq_false_iff, Bool.not_eq_true', Bool.not_eq_false', xH, xI, Bool.and_eq_false_imp, beq_iff_eq, beq_eq_false_iff_ne, ne_eq] at hc0)
   refine xQ (yM (yN (yL (yC (yD (yA rfl ?_))))))
   refine yS [] false (yBX Γ) ?_
   refine yS [] false (yCk Γ) ?_
   iterate 4 refine yF ?_
   refine yE (yB (yC (yD (yI ?_))))
   obtain rfl : j = 8 := by omega
   refine xJ (fun sl L (i : Nat) => ⟨setAll (setBad sl [0, 4, 5, 11, 12, 13, 14, 15, 16, 17, 18, 19, 20, 21, 22, 23, 24, 25, 26, 27, 28, 29, 30, 31, 32, 33, 34, 35, 36, 37, 38, 39, 40, 41, 42, 43, 44, 45, 46, 47, 48, 49, 50]) [(3, .t (txt ((uG xs.flatten).drop (64 * i))))], Go.Ot.look (vJ (.r 9 2 0) (xZ 245 (cls w32 (chunks (uG xs.flatten) i))) L)⟩) (fun i => 64 * i ≤ (uG xs.flatten).length) (fun i => (uG xs.flatten).length - i) (0) (wF ?_) ?_ ?_
   ·refine xB ?_ ?_ ?_ <;> simp [-List.map_set, -List.map_replicate, -List.reduceReplicate, -List.map_map, -List.map_drop, -List.map_take, chunks, uG]
   ·(first | omega | simp)
   ·intro i hi
    have hp := yBa xs.flatten
    have hc := pY (uG xs.flatten) i
    refine vK ?_
    refine yD (yD (yA rfl ?_))
    iterate 2 refine yF ?_
    refine yE (yB (yC ?_))
    refine vL (fun hc1 => ?_) (fun hc1 => ?_)
    ·(try simp only [Bool.and_eq_true, Bool.or_eq_true, Bool.or_eq_false_iff, Bool.not_eq_true', Bool.not_eq_false', xH, xI, Bool.and_eq_false_imp, beq_iff_eq, beq_eq_false_iff_ne, ne_eq] at hc1)
     have h64 := yD9 hp hc1
     refine yK (yC (yD (yI (yA rfl ?_))))
     have ht := cE (chunks (uG xs.flatten) i) (((uG xs.flatten).drop (64 * i)).take 64) hc
     iterate 4 refine yU ?_
     refine yV [] false (yCJ Γ (chunks (uG xs.flatten) i) (((uG xs.flatten).drop (64 * i)).take 64) (pY _ _) (by simp; omega)) ?_
     refine yU ?_
     refine yE (xP (by kernel_rfl) (yR (yC (yA rfl ?_))))
     iterate 3 refine yF ?_
     refine yE (yB ?_)
     refine xE (i + 1) (wF ?_) ?_ ?_
     ·refine xB ?_ ?_ ?_ <;> simp [-List.map_set, -List.map_replicate, -List.reduceReplicate, -List.map_map, -List.map_drop, -List.map_take, chunks, Nat.mul_add]
     ·(first | omega | (simp_all <;> omega))
     ·(first | omega | (simp only []; omega))
    ·(try simp only [Bool.and_eq_true, Bool.or_eq_true, Bool.or_eq_false_iff, Bool.not_eq_true', Bool.not_eq_false', xH, xI, Bool.and_eq_false_imp, beq_iff_eq, beq_eq_false_iff_ne, ne_eq] at hc1)
     have hd := yEa hp hi hc1
     refine xQ (yM (yN (yL (yC (yD (yA rfl ?_))))))
     refine yF ?_
     refine yE (yB (yC (yD (yD (yA rfl ?_)))))
     iterate 2 refine yF ?_
     refine yE (yB (yC (yI ?_)))
     refine xJ (fun sl L (k : Nat) => ⟨setAll (setBad sl [0, 3, 4, 5, 6, 7, 10, 11, 12, 13, 14, 15, 16, 17, 18, 19, 20, 21, 22, 23, 24, 25, 26, 27, 28, 29, 30, 31, 32, 33, 34, 35, 36, 37, 38, 39, 40, 41, 42, 43, 44, 45, 46, 47, 48, 49, 50, 53, 54, 55, 56, 57, 58, 59, 60, 61, 62, 63, 64, 65, 66, 67, 68, 69]) [(8, .msl (.n 7) 0 (4 * k) 1), (52, .t (num k))], Go.Ot.look (vJ (.n 7) (wE 5 w8 (yAp (chunks (uG xs.flatten) i) k)) L)⟩) (fun k => k ≤ 8) (fun k => 8 - k) (0) (wF ?_) ?_ ?_
     ·refine wQ [(.r 9 2 0, .r 9 2 0), (.r 9 3 0, .r 9 3 0)] ?_ ?_ ?_ <;> simp [-List.map_set, -List.map_replicate, -List.reduceReplicate, -List.map_map, -List.map_drop, -List.map_take, yAp]
     ·(first | omega | simp)
     ·intro k hk
      refine vK ?_
      refine yD (yA rfl ?_)
      refine yF ?_
      refine yE (yB (yC (yD ?_)))
      refine vL (fun hc2 => ?_) (fun hc2 => ?_)
      ·(try simp only [Bool.and_eq_true, Bool.or_eq_true, Bool.or_eq_false_iff, Bool.not_eq_true', Bool.not_eq_false', xH, xI, Bool.and_eq_false_imp, beq_iff_eq, beq_eq_false_iff_ne, ne_eq] at hc2)
       refine yK (yC (yD (yI (yD (yA rfl ?_)))))
       iterate 2 refine yF ?_
       refine yE (yB (yC (yA rfl ?_)))
       iterate 15 refine yF ?_
       refine yE (yB (yR (yC (yA rfl ?_))))
       iterate 2 refine yF ?_
       refine yE (yB ?_)
       refine xE (k + 1) (wF ?_) ?_ ?_
       ·refine xB ?_ ?_ ?_ <;> simp [-List.map_set, -List.map_replicate, -List.reduceReplicate, -List.map_map, -List.map_drop, -List.map_take, yAp, Nat.mul_add]
       ·(first | omega | (simp_all <;> omega))
       ·(first | omega | (simp only []; omega))
      ·(try simp only [Bool.and_eq_true, Bool.or_eq_true, Bool.or_eq_false_iff, Bool.not_eq_true', Bool.not_eq_false', xH, xI, Bool.and_eq_false_imp, beq_iff_eq, beq_eq_false_iff_ne, ne_eq] at hc2)
       refine xQ (yM (yN (yL (yC (yD (yA rfl ?_))))))
       obtain rfl : k = 8 := by omega
       refine yF ?_
       first | refine sW ?_ | refine uN ?_
       refine yF ?_
       refine yE (yB (yC (yP ?_)))
       refine ⟨.inr rfl, yT [] (by rw [results169]) ?_ ?_ ?_⟩ <;> simp [-List.map_set, -List.map_replicate, -List.reduceReplicate, -List.map_map, -List.map_drop, -List.map_take, sha, hd]
end Go.Proofs.Tryz
