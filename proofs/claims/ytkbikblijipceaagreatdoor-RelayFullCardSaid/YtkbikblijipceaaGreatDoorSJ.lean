/- Contracts of this program's functions. -/
import Derived.Test.YtkbikblijipceaaGreatDoorSE
set_option maxHeartbeats 4000000
set_option maxRecDepth 100000
set_option linter.unusedVariables false
set_option linter.unusedSimpArgs false
namespace Go.Proofs.Tryz
open Go Go.Ot
attribute [local simp] num bol txt w8 w16 w32 w64 lst cls xZ xR List.take_of_length_le
attribute [local irreducible] wpK wpS uE wH wV wN wZ xD Le yAf sha uH
theorem yGB (j : Nat) : ((56 : Int) - 8 * (j : Int)).toNat = ((8 : Int) * (7 - (j : Int))).toNat := by omega
def eight (n : Int) : List UInt8 := yAf (UInt64.ofInt n) 8
theorem pL (n : Int) : (eight n).length = 8 := kY _ _
attribute [push_cast] pL
theorem vY (Γ : Gl) (x : UInt32) (n : Nat) (hn : n ≤ 32) : Go.Ot.Good Γ prog 151 [.t (w32 x), .t (un n)] [] (.t (w32 (lft x n))) [] [] := by
 refine yR F.mix func151 (by rfl) ntmps151 ?_
 refine yD (yA rfl ?_)
 refine yF ?_
 refine yE (yB (yC (yD (yA rfl ?_))))
 iterate 9 refine yF ?_
 refine yE (yB (yC (yO ?_)))
 refine ⟨.inr rfl, yP [] (by rw [results151]) ?_ ?_ ?_⟩ <;> simp [un, lft, show ((32 : Int) - (n : Int)).toNat = 32 - n from by omega]
theorem pU (Γ : Gl) (x : UInt32) (a b c : Nat) (ha : a ≤ 32) (hb : b ≤ 32) (hc : c ≤ 32) : Go.Ot.Good Γ prog 152 [.t (w32 x), .t (un a), .t (un b), .t (un c)] [] (.t (w32 (yAz x a b c))) [] [] := by
 refine yR F.mix func152 (by rfl) ntmps152 ?_
 refine yD (yA rfl ?_)
 refine yF ?_
 refine yE (yB (yC (yD (yA rfl ?_))))
 iterate 3 refine yF ?_
 refine yU [] false (vY Γ x (32 - a) (by omega)) ?_
 iterate 3 refine yF ?_
 refine yU [] false (vY Γ x (32 - b) (by omega)) ?_
 iterate 4 refine yF ?_
 refine yU [] false (vY Γ x (32 - c) (by omega)) ?_
 iterate 2 refine yF ?_
 refine yE (yB (yC (yO ?_)))
 refine ⟨.inr rfl, yP [] (by rw [results152]) ?_ ?_ ?_⟩ <;> simp [un, yAz, qS x a ha, qS x b hb, qS x c hc]
theorem fD (Γ : Gl)  : Go.Ot.Good Γ prog 150 [] [] (.msl (.n 0) 0 64 1) [] [xZ 219 w32 K64] := by
 refine yR F.mix func150 (by rfl) ntmps150 ?_
 refine yD (yA rfl ?_)
 refine yF ?_
 refine yE (yB (yC (yD (yA rfl ?_))))
 refine yF (r := { val := .msl (.r 1 0 0) 0 64 1, F := [.r 1 0 0], upd := [(.r 1 0 0, some ⟨cls w32 K64, 219, true, true⟩)] }) (c := prog.underlying 220 = some (.slice (prog.elem 220)) ∧ wD prog (prog.elem 220) = true ∧ [D.t (.v (.int .u32 0))].length = prog.cellsOf (prog.elem 220) ∧ Go.Ot.look [] (.r 1 0 0) = none ∧ 64 * prog.cellsOf (prog.elem 220) ≤ 16777216 ∧ 64 ≤ maxLen) (hs := by kernel_rfl) ?_
 refine yF ?_
 refine yE (yB (yC (yO ?_)))
 exact ⟨.inr rfl, a_rz [(.n 0, .r 1 0 0)] (by rw [results150])⟩
theorem lM (Γ : Gl) (n : Int) : Go.Ot.Good Γ prog 123 [.t (num n)] [] (.t (txt (eight n))) [] [] := by
 refine yR F.mix func123 (by rfl) ntmps123 ?_
 refine yD (yA rfl ?_)
 refine yF ?_
 refine yE (yB (yC (yD (yA rfl ?_))))
 refine yF ?_
 refine yHF ?_
 refine yF ?_
 refine yE (yB (yC (yD (yA rfl ?_))))
 refine yF ?_
 refine yE (yB (yC (yD (yD (yA rfl ?_)))))
 refine yF ?_
 refine yE (yB (yC (yH ?_)))
 refine xN (fun sl L (j : Nat) => ⟨setAll (setBad sl [0, 6, 7, 8, 9, 10, 11, 12, 13, 14, 15, 16, 17, 18, 19, 20, 21]) [(4, .msl (.n 3) 0 j 1), (5, .t (num j))], Go.Ot.look (vD (.n 3) (xZ 5 w8 (yAf (UInt64.ofInt n) j)) L)⟩) (fun j => j ≤ 8) (fun j => 8 - j) (0) (wF ?_) ?_ ?_
 ·refine wL [] ?_ ?_ ?_ <;> simp [yAf]
 ·(first | omega | simp)
 ·intro j hj
  refine vE ?_
  refine yD (yD (yA rfl ?_))
  iterate 2 refine yF ?_
  refine yE (yB (yC ?_))
  refine vL (fun hc0 => ?_) (fun hc0 => ?_)
  ·(try simp only [zB] at hc0)
   refine yL (yC (yD (yH (yA rfl ?_))))
   iterate 11 refine yF ?_
   refine yE (yB (yS (yC (yA rfl ?_))))
   iterate 3 refine yF ?_
   refine yE (yB ?_)
   refine xE (j + 1) (wF ?_) ?_ ?_
   ·refine yT ?_ ?_ ?_ <;> simp [-List.map_set, -List.map_replicate, -List.reduceReplicate, -List.map_map, -List.map_drop, -List.map_take, yAf, yGB]
   ·(first | omega | (simp_all <;> omega))
   ·(first | omega | (simp only []; omega))
  ·(try simp only [zB] at hc0)
   refine xQ (yM (yN (yK (yC (yD (yA rfl ?_))))))
   obtain rfl : j = 8 := by omega
   refine yF ?_
   first | refine sV ?_ | refine uO ?_
   refine yF ?_
   refine yE (yB (yC (yO ?_)))
   refine ⟨.inr rfl, yP [] (by rw [results123]) ?_ ?_ ?_⟩ <;> simp [eight]
end Go.Proofs.Tryz

namespace Go.Proofs.Tryz
open Go Go.Ot
attribute [local irreducible] wpK wpS uE wH wV wN wZ xD Le
theorem yAs (x : UInt32) (k : Nat) : (jN x k).toBitVec = x.toBitVec <<< k := by
 apply BitVec.eq_of_toNat_eq
 simp only [jN, UInt32.toBitVec_ofNat', BitVec.toNat_ofNat, BitVec.toNat_shiftLeft]
 rfl
theorem yH5 (x y : UInt32) (k : Nat) : jN (x ||| y) k = jN x k ||| jN y k := by
 apply UInt32.toBitVec_inj.1
 simp only [yAs, UInt32.toBitVec_or, BitVec.shiftLeft_or_distrib]
theorem yDl (x : UInt32) (k l : Nat) : jN (jN x k) l = jN x (k + l) := by
 apply UInt32.toBitVec_inj.1
 simp only [yAs, BitVec.shiftLeft_add]
theorem yDk (k : Nat) : jN 0 k = 0 := by
 apply UInt32.toBitVec_inj.1
 rw [yAs]
 simp
theorem yHJ {p : List UInt8} {i j : Nat} (hj : j < 16) :
  jN (p.getD (64 * i + 4 * j) 0).toUInt32 24 ||| jN (p.getD (64 * i + 4 * j + 1) 0).toUInt32 16 ||| jN (p.getD (64 * i + 4 * j + 2) 0).toUInt32 8 ||| (p.getD (64 * i + 4 * j + 3) 0).toUInt32 = tQ ((p.drop (64 * i)).take 64) j 4 := by
 have g : ∀ k, k < 4 → ((p.drop (64 * i)).take 64).getD (4 * j + k) 0 = p.getD (64 * i + 4 * j + k) 0 := by
  intro k hk
  simp only [List.getD_eq_getElem?_getD, List.getElem?_take, List.getElem?_drop]
  rw [if_pos (by omega), show 64 * i + (4 * j + k) = 64 * i + 4 * j + k from by omega]
 have g0 := g 0 (by omega)
 rw [Nat.add_zero, Nat.add_zero] at g0
 simp only [tQ, Nat.add_zero, g0, g 1 (by omega), g 2 (by omega), g 3 (by omega), yDk, yH5, yDl, UInt32.zero_or, Nat.reduceAdd]
theorem sG (s : List UInt8) (j : Nat) : ∀ d, (wX s (j + 1 + d)).getD j 0 = (wX s (j + 1)).getD j 0
 | 0 => rfl
 | d + 1 => by
  rw [← sG s j d]
  show ((wX s (j + 1 + d)).set (j + 1 + d) _).getD j 0 = _
  simp only [List.getD_eq_getElem?_getD]
  rw [List.getElem?_set_ne (by omega)]
theorem yBn (s : List UInt8) {j : Nat} (hj : j < 64) : (wX s 64).getD j 0 = if j < 16 then tQ s j 4 else yF4 (wX s j) j := by
 have h := sG s j (63 - j)
 rw [show j + 1 + (63 - j) = 64 from by omega] at h
 rw [h]
 show ((wX s j).set j _).getD j 0 = _
 rw [tI (by rw [uU]; exact hj)]
theorem kQ (s : List UInt8) {j t : Nat} (hj : j ≤ 64) (ht : t < j) : (wX s j).getD t 0 = (wX s 64).getD t 0 := by
 have h := sG s t (63 - t)
 have k := sG s t (j - 1 - t)
 rw [show t + 1 + (63 - t) = 64 from by omega] at h
 rw [show t + 1 + (j - 1 - t) = j from by omega] at k
 rw [h, k]
theorem yIH {s : List UInt8} {w : List UInt32} {j : Nat} (h16 : 16 ≤ j) (hj : j < 64) (hw : ∀ t, t < j → w.getD t 0 = (wX s 64).getD t 0) :
  w.getD (j - 16) 0 + w.getD (j - 7) 0 + (lft (w.getD (j - 15) 0) 25 ^^^ lft (w.getD (j - 15) 0) 14 ^^^ cX (w.getD (j - 15) 0) 3) + (lft (w.getD (j - 2) 0) 15 ^^^ lft (w.getD (j - 2) 0) 13 ^^^ cX (w.getD (j - 2) 0) 10) = (wX s 64).getD j 0 := by
 rw [yBn s hj, if_neg (by omega)]
 simp only [yF4, sig0, sig1]
 rw [kQ s (by omega) (show j - 16 < j from by omega), kQ s (by omega) (show j - 7 < j from by omega), kQ s (by omega) (show j - 15 < j from by omega), kQ s (by omega) (show j - 2 < j from by omega),
  hw _ (show j - 16 < j from by omega), hw _ (show j - 7 < j from by omega), hw _ (show j - 15 < j from by omega), hw _ (show j - 2 < j from by omega)]
 rw [← qS _ 7 (by omega), ← qS _ 18 (by omega), ← qS _ 17 (by omega), ← qS _ 19 (by omega)]
theorem take7 {l : List UInt32} (hl : l.length = 8) (x : UInt32) : (l.take 7).set 3 x = [l.getD 0 0, l.getD 1 0, l.getD 2 0, x, l.getD 4 0, l.getD 5 0, l.getD 6 0] := by
 match l, hl with
 | [_, _, _, _, _, _, _, _], _ => rfl
def yFj (h v : List UInt32) : Nat → List UInt32
 | 0 => h
 | i + 1 => (yFj h v i).set i ((yFj h v i).getD i 0 + v.getD i 0)
theorem yB4 (h v : List UInt32) : ∀ i, (yFj h v i).length = h.length
 | 0 => rfl
 | i + 1 => by simp [yFj, yB4 h v i]
theorem yJB {h v : List UInt32} (hh : h.length = 8) (hv : v.length = 8) : yFj h v 8 = pC h v 8 := by
 match h, hh, v, hv with
 | [a, b, c, d, e, f, g, i], _, [a', b', c', d', e', f', g', i'], _ =>
  simp [yFj, pC, UInt32.add_comm]
theorem yCw (n : Nat) (hn : n ≤ 1000000000) : UInt64.ofInt (8 * (n : Int)) = UInt64.ofInt (n : Int) * 8 := by
 apply UInt64.toNat_inj.1
 have h1 := wi64 (8 * (n : Int))
 have h2 := wi64 (n : Int)
 rw [yAm (by omega) (by omega)] at h1 h2
 rw [UInt64.toNat_mul]
 have : (8 : UInt64).toNat = 8 := rfl
 rw [this]
 omega
theorem yCv (s : List UInt8) (hs : s.length ≤ 1000000000) : uH s = s ++ [128] ++ List.replicate ((120 - (s.length + 1) % 64) % 64) 0 ++ eight (8 * s.length) := by
 rw [uH, eight, yCw _ hs]
end Go.Proofs.Tryz

namespace Go.Proofs.Tryz
open Go Go.Ot
attribute [local simp] num bol txt w8 w16 w32 w64 lst cls xZ xR List.take_of_length_le
attribute [local irreducible] wpK wpS uE wH wV wN wZ xD Le wX tQ lI pC cN chunks takeB yAf yAM sha uH eight lft yAz yFj
theorem pY (Γ : Gl) (s : List UInt8) (hs : s.length ≤ 1000000000) : Go.Ot.Good Γ prog 119 [.t (txt s)] [] (.t (txt (sha s))) [] [] := by
 refine yR F.mix func119 (by rfl) ntmps119 ?_
 refine yD (yA rfl ?_)
 refine yF ?_
 refine yE (yB (yC (yD (yA rfl ?_))))
 iterate 3 refine yF ?_
 refine yE (yB (yC (yD (yA rfl ?_))))
 iterate 4 refine yF ?_
 refine yE (yB (yC (yD (yH ?_))))
 refine xN (fun sl L (k : Nat) => ⟨setAll (setBad sl [18, 19, 20, 21, 22, 23, 24, 25, 26, 27, 28, 29]) [(3, .msl (.r 1 1 0) 0 (s ++ [128] ++ List.replicate k 0).length 1)], Go.Ot.look (vD (.r 1 1 0) (xZ 5 w8 (s ++ [128] ++ List.replicate k 0)) (lN (.r 2 1 0) L))⟩) (fun k => k ≤ (120 - (s.length + 1) % 64) % 64) (fun k => (120 - (s.length + 1) % 64) % 64 - k) (0) (wF ?_) ?_ ?_
 ·refine yT ?_ ?_ ?_ <;> simp [-List.map_set, -List.map_replicate, -List.reduceReplicate, -List.map_map, -List.map_drop, -List.map_take] <;> (try omega)
 ·(first | omega | simp)
 ·intro k hk
  refine vE ?_
  refine yD (yD (yA rfl ?_))
  iterate 4 refine yF ?_
  refine yE (yB (yC ?_))
  refine vL (fun hc0 => ?_) (fun hc0 => ?_)
  ·(try simp only [zB] at hc0)
   refine yL (yC (yH (yA rfl ?_)))
   iterate 4 refine yF ?_
   refine yE (yB ?_)
   refine yS (xE (k + 1) (wF ?_) ?_ ?_)
   ·refine yT ?_ ?_ ?_ <;> simp [-List.map_set, -List.map_replicate, -List.reduceReplicate, -List.map_map, -List.map_drop, -List.map_take, List.replicate_succ'] <;> (try omega)
   ·(first | omega | (simp_all <;> omega))
   ·(first | omega | (simp only []; omega))
  ·(try simp only [zB] at hc0)
   obtain rfl : k = (120 - (s.length + 1) % 64) % 64 := by omega
   refine xQ (yM (yN (yK (yC (yD (yA rfl ?_))))))
   iterate 4 refine yF ?_
   refine yU [] false (lM Γ (8 * s.length)) ?_
   iterate 2 refine yF ?_
   refine yE (yB (yC (yD (yA rfl ?_))))
   iterate 2 refine yF ?_
   refine yE (yB (yC (yD (yA rfl ?_))))
   refine yU [] false (fD Γ) ?_
   refine yF ?_
   refine yE (yB (yC (yD (yA rfl ?_))))
   iterate 2 refine yF ?_
   refine yE (yB (yC (yD (yD (yA rfl ?_)))))
   refine yF ?_
   refine yE (yB (yC (yH ?_)))
   have hP := yCv s hs
   have hPl := yBy s
   have hPb : (uH s).length ≤ 1000000200 := by rw [hP]; simp only [List.length_append, List.length_cons, List.length_nil, List.length_replicate, pL]; omega
   refine xN (fun sl L (x : Nat × List UInt32) => ⟨setAll (setBad sl [0, 8, 9, 10, 11, 12, 13, 14, 15, 18, 19, 20, 21, 22, 23, 24, 25, 26, 27, 28, 29, 30, 31, 32, 33, 34, 35, 36, 37, 38, 39, 40, 41, 42, 43, 44, 45, 46, 47, 48, 49, 50, 51, 52, 53, 54, 55, 56, 57, 58, 59, 60, 61, 62, 63, 64, 65, 66, 67, 68, 69, 70, 71, 72, 73, 74, 75, 76, 77, 78, 79, 80, 81, 82, 83, 84, 85, 86, 87, 88, 89, 90, 91, 92, 93, 94, 95, 96, 97, 98, 99, 100, 101, 102, 103, 104, 105, 106, 107, 108, 109, 110, 111, 112, 113, 114, 115, 116, 117, 118, 119, 120, 121, 122, 123, 124, 125, 126, 127, 128, 129, 130, 131, 132, 133, 134, 135, 136, 137, 138, 139, 140, 141, 142, 143, 144, 145, 146, 147, 148, 149, 150, 151, 152, 153, 154, 155, 156, 157, 158, 159, 160, 161, 162, 163, 164, 165, 166, 167, 168, 169, 170, 171, 172, 173, 174, 175, 176, 177, 178, 179, 180, 181, 182, 183, 184, 185, 186, 187, 188, 189, 190, 191, 192, 193, 194, 195, 196, 197, 198, 199, 200, 201, 202, 203, 204, 205, 206, 207, 208, 209, 210, 211, 212, 213, 214, 215, 216]) [(3, .msl (.r 1 1 0) 0 (uH s).length 1), (7, .t (num (64 * (x.1 : Int))))], Go.Ot.look (vD (.r 1 1 0) (xZ 5 w8 (uH s)) (vD (.r 6 0 0) (xZ 219 w32 (chunks (uH s) x.1)) (vD (.r 8 0 0) (xZ 219 w32 x.2) L)))⟩) (fun x => 64 * x.1 ≤ (uH s).length ∧ x.2.length = 64) (fun x => (uH s).length - x.1) ((0, List.replicate 64 0)) (wF ?_) ?_ ?_
   ·refine yT ?_ ?_ ?_ <;> simp [-List.map_set, -List.map_replicate, -List.reduceReplicate, -List.map_map, -List.map_drop, -List.map_take, hP, chunks, pL, H0, List.replicate_succ (n := 63), List.replicate_succ, List.replicate_zero] <;> (try omega)
   ·exact ⟨by simp, by simp⟩
   ·rintro ⟨i, w⟩ ⟨hi, hw⟩
    dsimp only at hi hw
    have hc8 := nD (uH s) i
    refine vE ?_
    refine yD (yD (yA rfl ?_))
    iterate 4 refine yF ?_
    refine yE (yB (yC ?_))
    refine vL (fun hc1 => ?_) (fun hc1 => ?_)
    ·(try simp only [zB] at hc1)
     have h64 : 64 * i + 64 ≤ (uH s).length := by omega
     refine yL (yC (yD (yH (yD (yA rfl ?_)))))
     iterate 4 refine yF ?_
     refine yE (yB (yC (yD (yD (yA rfl ?_)))))
     refine yF ?_
     refine yE (yB (yC (yH ?_)))
     refine xN (fun sl L (y : Nat × List UInt32) => ⟨setAll (setBad sl [0, 10, 11, 12, 13, 14, 18, 19, 20, 21, 22, 23, 24, 25, 26, 27, 28, 29, 30, 31, 32, 33, 34, 35, 36, 37, 38, 39, 40, 41, 42, 45, 46, 47, 48, 49, 50, 51, 52, 53, 54, 55, 56, 57, 58, 59, 60, 61, 62, 63, 64, 65, 66, 67, 68, 69, 70, 71, 72, 73, 74, 75, 76, 77, 78, 79, 80, 81, 82, 83, 84, 85, 86, 87, 88, 89, 90, 91, 92, 93, 94, 95, 96, 97, 98, 99, 100, 101, 102, 103, 104, 105, 106, 107, 108, 109, 110, 111, 112, 113, 114, 115, 116, 117, 118, 119, 120, 121, 122, 123, 124, 125, 126, 127, 128, 129, 130, 131, 132, 133, 134, 135, 136, 137, 138, 139, 140, 141, 142, 143, 144, 145, 146, 147, 148, 149, 150, 151, 152, 153, 154, 155, 156, 157, 158, 159, 160, 161, 162, 163, 164, 165, 166, 167, 168, 169, 170, 171, 172, 173, 174, 175, 176, 177, 178, 179, 180, 181, 182, 183, 184, 185, 186, 187, 188, 189, 190, 191, 192, 193, 194, 195, 196, 197, 198, 199, 200, 201, 202]) [(8, .msl (.n 1) 0 8 1), (9, .t (num y.1))], Go.Ot.look (vD (.n 1) (xZ 219 w32 (lI (chunks (uH s) i) (wX (((uH s).drop (64 * i)).take 64) 64) y.1)) (vD (.r 8 0 0) (xZ 219 w32 y.2) (lN (.r 12 0 0) L)))⟩) (fun y => y.1 ≤ 64 ∧ y.2.length = 64 ∧ ∀ t, t < y.1 → y.2.getD t 0 = (wX (((uH s).drop (64 * i)).take 64) 64).getD t 0) (fun y => 64 - y.1) ((0, w)) (wF ?_) ?_ ?_
     ·refine wL [(.r 1 1 0, .r 1 1 0), (.r 6 0 0, .r 6 0 0), (.r 7 0 0, .r 7 0 0), (.r 8 0 0, .r 8 0 0), (.n 1, .r 12 0 0)] ?_ ?_ ?_ <;> simp [-List.map_set, -List.map_replicate, -List.reduceReplicate, -List.map_map, -List.map_drop, -List.map_take, lI]
     ·exact ⟨by simp, hw, fun t ht => by omega⟩
     ·rintro ⟨j, u⟩ ⟨hj, hu, hut⟩
      dsimp only at hj hu hut
      have hr := kR (chunks (uH s) i) (wX (((uH s).drop (64 * i)).take 64) 64) hc8 j
      have hk64 := K64_len
      have hb64 := uU (((uH s).drop (64 * i)).take 64) 64
      refine vE ?_
      refine yD (yD (yA rfl ?_))
      iterate 2 refine yF ?_
      refine yE (yB (yC ?_))
      refine vL (fun hc2 => ?_) (fun hc2 => ?_)
      ·(try simp only [zB] at hc2)
       refine yL (yC (yD (yH (yD (yD (yA rfl ?_))))))
       iterate 2 refine yF ?_
       refine yE (yB (yC ?_))
       refine vL (fun hc3 => ?_) (fun hc3 => ?_)
       ·(try simp only [zB] at hc3)
        refine yD (yA rfl ?_)
        iterate 7 refine yF ?_
        refine yE (yB (yC (yA rfl ?_)))
        iterate 26 refine yY ?_
        have hx : jN ((uH s).getD ((64 : Int) * (i : Int) + 4 * (j : Int)).toNat 0).toUInt32 24 ||| jN ((uH s).getD (((64 : Int) * (i : Int) + 4 * (j : Int)).toNat + 1) 0).toUInt32 16 ||| jN ((uH s).getD (((64 : Int) * (i : Int) + 4 * (j : Int)).toNat + 2) 0).toUInt32 8 ||| ((uH s).getD (((64 : Int) * (i : Int) + 4 * (j : Int)).toNat + 3) 0).toUInt32 = (wX (((uH s).drop (64 * i)).take 64) 64).getD j 0 := by rw [show ((64 : Int) * (i : Int) + 4 * (j : Int)).toNat = 64 * i + 4 * j from by omega, yHJ (by omega), yBn _ (by omega), if_pos (by omega)]
        rw [hx]
        refine yE (xO (by kernel_rfl) (yC (yD (yA rfl ?_))))
        iterate 6 refine yY ?_
        refine yZ [] false (pU Γ ((lI (chunks (uH s) i) (wX (((uH s).drop (64 * i)).take 64) 64) j).getD 4 0) 6 11 25 (by omega) (by omega) (by omega)) ?_
        iterate 29 refine yY ?_
        refine yE (xO (by kernel_rfl) (yC (yD (yA rfl ?_))))
        iterate 3 refine yY ?_
        refine yZ [] false (pU Γ ((lI (chunks (uH s) i) (wX (((uH s).drop (64 * i)).take 64) 64) j).getD 0 0) 2 13 22 (by omega) (by omega) (by omega)) ?_
        iterate 25 refine yY ?_
        refine yE (xO (by kernel_rfl) (yC (yD (yA rfl ?_))))
        iterate 8 refine yF ?_
        refine yE (yB (yC (yA rfl ?_)))
        iterate 7 refine yF ?_
        refine yE (yB (yS (yC (yA rfl ?_))))
        iterate 3 refine yF ?_
        refine yE (yB ?_)
        refine xE ((j + 1, u.set j ((wX (((uH s).drop (64 * i)).take 64) 64).getD j 0))) (wF ?_) ?_ ?_
        ·refine wL [(.r 1 1 0, .r 1 1 0), (.r 6 0 0, .r 6 0 0), (.r 7 0 0, .r 7 0 0), (.r 8 0 0, .r 8 0 0), (.n 1, .r 23 3 0)] ?_ ?_ ?_ <;> simp [-List.map_set, -List.map_replicate, -List.reduceReplicate, -List.map_map, -List.map_drop, -List.map_take, lI, rnd, tt, uu, take7 hr]
        ·refine ⟨by simp only []; omega, by simpa using hu, fun t ht => ?_⟩
         by_cases e : t = j
         ·subst e; exact tI (by rw [hu]; omega)
         ·simp only [List.getD_eq_getElem?_getD] at hut ⊢; rw [List.getElem?_set_ne (by omega)]; exact hut t (by simp only [] at ht; omega)
        ·(first | omega | (simp only []; omega))
       ·(try simp only [zB] at hc3)
        refine yD (yA rfl ?_)
        iterate 12 refine yY ?_
        refine yE (xO (by kernel_rfl) (yC (yA rfl ?_)))
        iterate 14 refine yY ?_
        refine yZ [] false (vY Γ (u.getD ((j : Int) - 15).toNat 0) 25 (by omega)) ?_
        refine yY ?_
        refine yZ [] false (vY Γ (u.getD ((j : Int) - 15).toNat 0) 14 (by omega)) ?_
        iterate 6 refine yY ?_
        refine yZ [] false (vY Γ (u.getD ((j : Int) - 2).toNat 0) 15 (by omega)) ?_
        refine yY ?_
        refine yZ [] false (vY Γ (u.getD ((j : Int) - 2).toNat 0) 13 (by omega)) ?_
        iterate 7 refine yY ?_
        have hx := yIH (s := ((uH s).drop (64 * i)).take 64) (w := u) (j := j) (by omega) (by omega) hut
        rw [show j - 16 = ((j : Int) - 16).toNat from by omega, show j - 7 = ((j : Int) - 7).toNat from by omega, show j - 15 = ((j : Int) - 15).toNat from by omega, show j - 2 = ((j : Int) - 2).toNat from by omega] at hx
        rw [hx]
        refine yE (xO (by kernel_rfl) (yC (yD (yA rfl ?_))))
        iterate 6 refine yY ?_
        refine yZ [] false (pU Γ ((lI (chunks (uH s) i) (wX (((uH s).drop (64 * i)).take 64) 64) j).getD 4 0) 6 11 25 (by omega) (by omega) (by omega)) ?_
        iterate 29 refine yY ?_
        refine yE (xO (by kernel_rfl) (yC (yD (yA rfl ?_))))
        iterate 3 refine yY ?_
        refine yZ [] false (pU Γ ((lI (chunks (uH s) i) (wX (((uH s).drop (64 * i)).take 64) 64) j).getD 0 0) 2 13 22 (by omega) (by omega) (by omega)) ?_
        iterate 25 refine yY ?_
        refine yE (xO (by kernel_rfl) (yC (yD (yA rfl ?_))))
        iterate 8 refine yF ?_
        refine yE (yB (yC (yA rfl ?_)))
        iterate 7 refine yF ?_
        refine yE (yB (yS (yC (yA rfl ?_))))
        iterate 3 refine yF ?_
        refine yE (yB ?_)
        refine xE ((j + 1, u.set j ((wX (((uH s).drop (64 * i)).take 64) 64).getD j 0))) (wF ?_) ?_ ?_
        ·refine wL [(.r 1 1 0, .r 1 1 0), (.r 6 0 0, .r 6 0 0), (.r 7 0 0, .r 7 0 0), (.r 8 0 0, .r 8 0 0), (.n 1, .r 23 3 0)] ?_ ?_ ?_ <;> simp [-List.map_set, -List.map_replicate, -List.reduceReplicate, -List.map_map, -List.map_drop, -List.map_take, lI, rnd, tt, uu, take7 hr]
        ·refine ⟨by simp only []; omega, by simpa using hu, fun t ht => ?_⟩
         by_cases e : t = j
         ·subst e; exact tI (by rw [hu]; omega)
         ·simp only [List.getD_eq_getElem?_getD] at hut ⊢; rw [List.getElem?_set_ne (by omega)]; exact hut t (by simp only [] at ht; omega)
        ·(first | omega | (simp only []; omega))
      ·(try simp only [zB] at hc2)
       refine xQ (yM (yN (yK (yC (yD (yA rfl ?_))))))
       refine yF ?_
       refine yE (yB (yC (yH ?_)))
       obtain rfl : j = 64 := by omega
       have hv8 := hr
       refine xN (fun sl L (q : Nat) => ⟨setAll (setBad sl [0, 18, 19, 20, 21, 22, 23, 24, 25, 26, 27, 28, 29, 30, 31, 32, 33, 34, 35, 36, 37, 38, 39, 40, 41, 42, 45, 46, 47, 48, 49, 50, 51, 52, 53, 54, 55, 56, 57, 58, 59, 60, 61, 62, 63, 64, 65, 66, 67, 68, 69, 70, 71, 72, 73, 74, 75, 76, 77, 78, 79, 80, 81, 82, 83, 84, 85, 86, 87, 88, 89, 90, 91, 92, 93, 94, 95, 96, 97, 98, 99, 100, 101, 102, 103, 104, 105, 106, 107, 108, 109, 110, 111, 112, 113, 114, 115, 116, 117, 118, 119, 120, 121, 122, 123, 124, 125, 126, 127, 128, 129, 130, 131, 132, 133, 134, 135, 136, 137, 138, 139, 140, 141, 142, 143, 144, 145, 146, 147, 148, 149, 150, 151, 152, 153, 154, 155, 156, 157, 158, 159, 160, 161, 162, 163, 164, 165, 166, 167, 168, 169, 170, 171, 172, 173, 174, 175, 176, 177, 178, 179, 180, 181, 182, 183, 184, 185, 186, 187, 188, 189, 190, 191, 192, 193, 194, 195, 196, 197, 198, 199, 200, 201, 202, 203, 204, 205, 206, 207, 208, 209, 210, 211, 212, 213, 214, 215, 216]) [(15, .t (num q))], Go.Ot.look (vD (.r 6 0 0) (xZ 219 w32 (yFj (chunks (uH s) i) (lI (chunks (uH s) i) (wX (((uH s).drop (64 * i)).take 64) 64) 64) q)) L)⟩) (fun q => q ≤ 8) (fun q => 8 - q) (0) (wF ?_) ?_ ?_
       ·refine yT ?_ ?_ ?_ <;> simp [-List.map_set, -List.map_replicate, -List.reduceReplicate, -List.map_map, -List.map_drop, -List.map_take, yFj]
       ·(first | omega | simp)
       ·intro q hq
        have ha := (yB4 (chunks (uH s) i) (lI (chunks (uH s) i) (wX (((uH s).drop (64 * i)).take 64) 64) 64) q).trans hc8
        refine vE ?_
        refine yD (yD (yA rfl ?_))
        iterate 2 refine yF ?_
        refine yE (yB (yC ?_))
        refine vL (fun hc4 => ?_) (fun hc4 => ?_)
        ·(try simp only [zB] at hc4)
         refine yL (yC (yD (yH (yA rfl ?_))))
         iterate 11 refine yY ?_
         refine yE (xO (by kernel_rfl) (yS (yC (yA rfl ?_))))
         iterate 3 refine yF ?_
         refine yE (yB ?_)
         refine xE (q + 1) (wF ?_) ?_ ?_
         ·refine yT ?_ ?_ ?_ <;> simp [-List.map_set, -List.map_replicate, -List.reduceReplicate, -List.map_map, -List.map_drop, -List.map_take, yFj]
         ·(first | omega | (simp_all <;> omega))
         ·(first | omega | (simp only []; omega))
        ·(try simp only [zB] at hc4)
         obtain rfl : q = 8 := by omega
         refine xQ (yM (yN (yK (yS (yC (yA rfl ?_))))))
         iterate 3 refine yF ?_
         refine yE (yB ?_)
         refine xE ((i + 1, u)) (wF ?_) ?_ ?_
         ·refine yT ?_ ?_ ?_ <;> simp [-List.map_set, -List.map_replicate, -List.reduceReplicate, -List.map_map, -List.map_drop, -List.map_take, chunks, takeB, yJB hc8 hv8, Int.mul_add] <;> (try omega)
         ·exact ⟨by simp only []; omega, hu⟩
         ·(first | omega | (simp only []; omega))
    ·(try simp only [zB] at hc1)
     have hd : (uH s).length / 64 = i := by omega
     refine xQ (yM (yN (yK (yC (yD (yA rfl ?_))))))
     refine yF ?_
     refine yE (yB (yC (yD (yD (yA rfl ?_)))))
     refine yF ?_
     refine yE (yB (yC (yH ?_)))
     refine xN (fun sl L (k : Nat) => ⟨setAll (setBad sl [0, 3, 5, 6, 7, 8, 9, 10, 11, 12, 13, 14, 15, 18, 19, 20, 21, 22, 23, 24, 25, 26, 27, 28, 29, 30, 31, 32, 33, 34, 35, 36, 37, 38, 39, 40, 41, 42, 43, 44, 45, 46, 47, 48, 49, 50, 51, 52, 53, 54, 55, 56, 57, 58, 59, 60, 61, 62, 63, 64, 65, 66, 67, 68, 69, 70, 71, 72, 73, 74, 75, 76, 77, 78, 79, 80, 81, 82, 83, 84, 85, 86, 87, 88, 89, 90, 91, 92, 93, 94, 95, 96, 97, 98, 99, 100, 101, 102, 103, 104, 105, 106, 107, 108, 109, 110, 111, 112, 113, 114, 115, 116, 117, 118, 119, 120, 121, 122, 123, 124, 125, 126, 127, 128, 129, 130, 131, 132, 133, 134, 135, 136, 137, 138, 139, 140, 141, 142, 143, 144, 145, 146, 147, 148, 149, 150, 151, 152, 153, 154, 155, 156, 157, 158, 159, 160, 161, 162, 163, 164, 165, 166, 167, 168, 169, 170, 171, 172, 173, 174, 175, 176, 177, 178, 179, 180, 181, 182, 183, 184, 185, 186, 187, 188, 189, 190, 191, 192, 193, 194, 195, 196, 197, 198, 199, 200, 201, 202, 203, 204, 205, 206, 207, 208, 209, 210, 211, 212, 213, 214, 215, 216, 217, 218, 219, 220, 221, 222, 223, 224, 225, 226, 227, 228, 229, 230, 231, 232, 233, 234, 235, 236, 237, 238, 239, 240, 241, 242, 243, 244, 245, 246]) [(16, .msl (.n 7) 0 (4 * k) 1), (17, .t (num k))], Go.Ot.look (vD (.n 7) (xZ 5 w8 (yAM (chunks (uH s) i) k)) L)⟩) (fun k => k ≤ 8) (fun k => 8 - k) (0) (wF ?_) ?_ ?_
     ·refine wL [(.r 1 1 0, .r 1 1 0), (.r 6 0 0, .r 6 0 0), (.r 7 0 0, .r 7 0 0), (.r 8 0 0, .r 8 0 0)] ?_ ?_ ?_ <;> simp [-List.map_set, -List.map_replicate, -List.reduceReplicate, -List.map_map, -List.map_drop, -List.map_take, yAM]
     ·(first | omega | simp)
     ·intro k hk
      refine vE ?_
      refine yD (yD (yA rfl ?_))
      iterate 2 refine yF ?_
      refine yE (yB (yC ?_))
      refine vL (fun hc5 => ?_) (fun hc5 => ?_)
      ·(try simp only [zB] at hc5)
       refine yL (yC (yD (yH (yA rfl ?_))))
       iterate 27 refine yY ?_
       refine yE (xO (by kernel_rfl) (yS (yC (yA rfl ?_))))
       iterate 3 refine yF ?_
       refine yE (yB ?_)
       refine xE (k + 1) (wF ?_) ?_ ?_
       ·refine yT ?_ ?_ ?_ <;> simp [-List.map_set, -List.map_replicate, -List.reduceReplicate, -List.map_map, -List.map_drop, -List.map_take, yAM, Nat.mul_add]
       ·(first | omega | (simp_all <;> omega))
       ·(first | omega | (simp only []; omega))
      ·(try simp only [zB] at hc5)
       refine xQ (yM (yN (yK (yC (yD (yA rfl ?_))))))
       obtain rfl : k = 8 := by omega
       refine yF ?_
       first | refine sV ?_ | refine uO ?_
       refine yF ?_
       refine yE (yB (yC (yO ?_)))
       refine ⟨.inr rfl, yP [] (by rw [results119]) ?_ ?_ ?_⟩ <;> simp [sha, hd]
end Go.Proofs.Tryz
