/- Contracts of this program's functions. -/
import Derived.Test.YtkbikblijipceaaGreatDoorSD
import Derived.Test.YtkbikblijipceaaGreatDoorSH
import Derived.Test.YtkbikblijipceaaGreatDoorOtD
set_option maxHeartbeats 4000000
set_option maxRecDepth 100000
set_option linter.unusedVariables false
set_option linter.unusedSimpArgs false
namespace Go.Proofs.Tryz
open Go Go.Ot
attribute [local simp] num bol txt w8 w16 w32 w64 lst cls xZ xR List.take_of_length_le
attribute [local irreducible] wpK wpS uE wH wV wN wZ xD Le wX tQ lI pC cN chunks takeB yAf yAM sha uH
theorem yEe (Γ : Gl) (xs : List (List UInt8)) (hn : xs.length ≤ 140737488355328) (hl : xs.flatten.length ≤ 140737488355328) : Go.Ot.Good Γ prog 172 [.t (lst txt xs), .t (txt [])] [] (.t (txt xs.flatten)) [] [] := yEt Tryz.strings_Join_none Tryz.strings_Join xs hn hl
theorem yAC (Γ : Gl) (b : UInt8) (n : Nat) (hn : n ≤ 140737488355328) : Go.Ot.Good Γ prog 173 [.t (txt [b]), .t (num n)] [] (.t (txt (List.replicate n b))) [] [] := yAT Tryz.strings_Repeat b n hn
theorem yFx (Γ : Gl) (xs : List (List UInt8)) (hn : xs.length ≤ 1000000000) (hl : xs.flatten.length ≤ 1000000000) : Go.Ot.Good Γ prog 169 [.t (lst txt xs)] [] (.t (txt (sha xs.flatten))) [] [] := by
 refine yR F.mix func169 (by rfl) ntmps169 ?_
 refine yD (yA rfl ?_)
 refine yF ?_
 refine yE (yB (yC (yD (yA rfl ?_))))
 refine yF ?_
 refine yU [] false (yEe Γ xs (by omega) (by omega)) ?_
 refine yF ?_
 refine yE (yB (yC (yD (yA rfl ?_))))
 iterate 2 refine yF ?_
 refine yHF ?_
 iterate 2 refine yF ?_
 refine yE (yB (yC (yD (yA rfl ?_))))
 iterate 3 refine yF ?_
 refine yE (yB (yC (yD (yA rfl ?_))))
 iterate 6 refine yF ?_
 refine yU [] false (yAC Γ 0 ((120 - (xs.flatten.length + 1) % 64) % 64) (by omega)) ?_
 iterate 2 refine yF ?_
 refine yE (yB (yC (yD (yD (yA rfl ?_)))))
 refine yF ?_
 refine yE (yB (yC (yH ?_)))
 refine xN (fun sl L (j : Nat) => ⟨setAll (setBad sl [0, 11, 12, 13, 14, 15, 16, 17, 18, 19, 20, 21, 22, 23, 24, 25, 26, 27, 28, 29, 30, 31, 32, 33, 34, 35, 36, 37, 38, 39]) [(5, .t (num (7 - (j : Int)))), (3, .t (txt (xs.flatten ++ [128] ++ List.replicate ((120 - (xs.flatten.length + 1) % 64) % 64) 0 ++ yAf (UInt64.ofInt xs.flatten.length * 8) j)))], Go.Ot.look (L)⟩) (fun j => j ≤ 8) (fun j => 8 - j) (0) (wF ?_) ?_ ?_
 ·refine yT ?_ ?_ ?_ <;> simp [yAf] <;> (try omega)
 ·(first | omega | simp)
 ·intro j hj
  refine vE ?_
  refine yD (yD (yA rfl ?_))
  iterate 2 refine yF ?_
  refine yE (yB (yC ?_))
  refine vL (fun hc0 => ?_) (fun hc0 => ?_)
  ·(try simp only [zB] at hc0)
   refine yL (yC (yD (yH (yA rfl ?_))))
   iterate 7 refine yF ?_
   first | refine sV ?_ | refine uO ?_
   iterate 2 refine yF ?_
   refine yE (yB (yS (yC (yA rfl ?_))))
   iterate 3 refine yF ?_
   refine yE (yB ?_)
   refine xE (j + 1) (wF ?_) ?_ ?_
   ·refine yT ?_ ?_ ?_ <;> simp [yAf] <;> (try omega)
   ·(first | omega | (simp_all <;> omega))
   ·(first | omega | (simp only []; omega))
  ·(try simp only [zB] at hc0)
   refine xQ (yM (yN (yK (yC (yD (yA rfl ?_))))))
   refine yU [] false (yCo Γ) ?_
   refine yU [] false (yCM Γ) ?_
   iterate 4 refine yF ?_
   refine yE (yB (yC (yD (yH ?_))))
   obtain rfl : j = 8 := by omega
   refine xN (fun sl L (i : Nat) => ⟨setAll (setBad sl [0, 4, 5, 11, 12, 13, 14, 15, 16, 17, 18, 19, 20, 21, 22, 23, 24, 25, 26, 27, 28, 29, 30, 31, 32, 33, 34, 35, 36, 37, 38, 39, 40, 41, 42, 43, 44, 45, 46, 47, 48, 49, 50]) [(3, .t (txt ((uH xs.flatten).drop (64 * i))))], Go.Ot.look (vD (.r 9 2 0) (xR 245 (cls w32 (chunks (uH xs.flatten) i))) L)⟩) (fun i => 64 * i ≤ (uH xs.flatten).length) (fun i => (uH xs.flatten).length - i) (0) (wF ?_) ?_ ?_
   ·refine yT ?_ ?_ ?_ <;> simp [-List.map_set, -List.map_replicate, -List.reduceReplicate, -List.map_map, -List.map_drop, -List.map_take, chunks, uH]
   ·(first | omega | simp)
   ·intro i hi
    have hp := yBy xs.flatten
    have hc := nD (uH xs.flatten) i
    refine vE ?_
    refine yD (yD (yA rfl ?_))
    iterate 2 refine yF ?_
    refine yE (yB (yC ?_))
    refine vL (fun hc1 => ?_) (fun hc1 => ?_)
    ·(try simp only [zB] at hc1)
     have h64 := yEG hp hc1
     refine yL (yC (yD (yH (yA rfl ?_))))
     have ht := cV (chunks (uH xs.flatten) i) (((uH xs.flatten).drop (64 * i)).take 64) hc
     iterate 4 refine yY ?_
     refine yZ [] false (yDc Γ (chunks (uH xs.flatten) i) (((uH xs.flatten).drop (64 * i)).take 64) (nD _ _) (by simp; omega)) ?_
     refine yY ?_
     refine yE (xO (by kernel_rfl) (yS (yC (yA rfl ?_))))
     iterate 3 refine yF ?_
     refine yE (yB ?_)
     refine xE (i + 1) (wF ?_) ?_ ?_
     ·refine yT ?_ ?_ ?_ <;> simp [-List.map_set, -List.map_replicate, -List.reduceReplicate, -List.map_map, -List.map_drop, -List.map_take, chunks, Nat.mul_add]
     ·(first | omega | (simp_all <;> omega))
     ·(first | omega | (simp only []; omega))
    ·(try simp only [zB] at hc1)
     have hd := yEH hp hi hc1
     refine xQ (yM (yN (yK (yC (yD (yA rfl ?_))))))
     refine yF ?_
     refine yE (yB (yC (yD (yD (yA rfl ?_)))))
     iterate 2 refine yF ?_
     refine yE (yB (yC (yH ?_)))
     refine xN (fun sl L (k : Nat) => ⟨setAll (setBad sl [0, 3, 4, 5, 6, 7, 10, 11, 12, 13, 14, 15, 16, 17, 18, 19, 20, 21, 22, 23, 24, 25, 26, 27, 28, 29, 30, 31, 32, 33, 34, 35, 36, 37, 38, 39, 40, 41, 42, 43, 44, 45, 46, 47, 48, 49, 50, 53, 54, 55, 56, 57, 58, 59, 60, 61, 62, 63, 64, 65, 66, 67, 68, 69]) [(8, .msl (.n 7) 0 (4 * k) 1), (52, .t (num k))], Go.Ot.look (vD (.n 7) (xZ 5 w8 (yAM (chunks (uH xs.flatten) i) k)) L)⟩) (fun k => k ≤ 8) (fun k => 8 - k) (0) (wF ?_) ?_ ?_
     ·refine wL [(.r 9 2 0, .r 9 2 0), (.r 9 3 0, .r 9 3 0)] ?_ ?_ ?_ <;> simp [-List.map_set, -List.map_replicate, -List.reduceReplicate, -List.map_map, -List.map_drop, -List.map_take, yAM]
     ·(first | omega | simp)
     ·intro k hk
      refine vE ?_
      refine yD (yA rfl ?_)
      refine yF ?_
      refine yE (yB (yC (yD ?_)))
      refine vL (fun hc2 => ?_) (fun hc2 => ?_)
      ·(try simp only [zB] at hc2)
       refine yL (yC (yD (yH (yD (yA rfl ?_)))))
       iterate 2 refine yF ?_
       refine yE (yB (yC (yA rfl ?_)))
       iterate 15 refine yF ?_
       refine yE (yB (yS (yC (yA rfl ?_))))
       iterate 2 refine yF ?_
       refine yE (yB ?_)
       refine xE (k + 1) (wF ?_) ?_ ?_
       ·refine yT ?_ ?_ ?_ <;> simp [-List.map_set, -List.map_replicate, -List.reduceReplicate, -List.map_map, -List.map_drop, -List.map_take, yAM, Nat.mul_add]
       ·(first | omega | (simp_all <;> omega))
       ·(first | omega | (simp only []; omega))
      ·(try simp only [zB] at hc2)
       refine xQ (yM (yN (yK (yC (yD (yA rfl ?_))))))
       obtain rfl : k = 8 := by omega
       refine yF ?_
       first | refine sV ?_ | refine uO ?_
       refine yF ?_
       refine yE (yB (yC (yO ?_)))
       refine ⟨.inr rfl, yP [] (by rw [results169]) ?_ ?_ ?_⟩ <;> simp [sha, hd]
end Go.Proofs.Tryz
