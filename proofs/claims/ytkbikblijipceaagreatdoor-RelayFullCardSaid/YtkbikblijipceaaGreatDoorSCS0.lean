/- Contracts of this program's functions. -/
import Derived.Test.YtkbikblijipceaaGreatDoorSD
import Derived.Test.YtkbikblijipceaaGreatDoorOtE
import Derived.Test.YtkbikblijipceaaGreatDoorSJ
import Derived.Test.YtkbikblijipceaaGreatDoorSCH1
set_option maxHeartbeats 4000000
set_option maxRecDepth 100000
set_option linter.unusedVariables false
set_option linter.unusedSimpArgs false
namespace Go.Proofs.Tryz.Cy
open Go Go.Ot
def kF (l : List UInt32) (a b : Nat) : List UInt32 := l.set a (l.getD a 0 + l.getD b 0)
def pB (l : List UInt32) (a d n : Nat) : List UInt32 := l.set d (lft (l.getD d 0 ^^^ l.getD a 0) n)
def eT (l : List UInt32) (a b d n : Nat) : List UInt32 := pB (kF l a b) a d n
def bY (l : List UInt32) (a b c d : Nat) : List UInt32 := eT (eT (eT (eT l a b d 16) c d b 12) a b d 8) c d b 7
def gG (l : List UInt32) : Nat → List UInt32
 | 0 => l
 | i + 1 => bY (gG l i) i (4 + i) (8 + i) (12 + i)
def dZ (l : List UInt32) : Nat → List UInt32
 | 0 => l
 | i + 1 => bY (dZ l i) i (4 + (i + 1) % 4) (8 + (i + 2) % 4) (12 + (i + 3) % 4)
def mI (l : List UInt32) : Nat → List UInt32
 | 0 => l
 | i + 1 => dZ (gG (mI l i) 4) 4
theorem yB5 (l : List UInt32) (a b : Nat) : (kF l a b).length = l.length := by simp [kF]
theorem cT (l : List UInt32) (a d n : Nat) : (pB l a d n).length = l.length := by simp [pB]
theorem cW (l : List UInt32) (a b d n : Nat) : (eT l a b d n).length = l.length := by simp [eT, yB5, cT]
theorem jR (l : List UInt32) (a b c d : Nat) : (bY l a b c d).length = l.length := by simp [bY, cW]
theorem pO (l : List UInt32) : ∀ i, (gG l i).length = l.length
 | 0 => rfl
 | i + 1 => by simp [gG, jR, pO l i]
theorem pM (l : List UInt32) : ∀ i, (dZ l i).length = l.length
 | 0 => rfl
 | i + 1 => by simp [dZ, jR, pM l i]
theorem mH (l : List UInt32) : ∀ i, (mI l i).length = l.length
 | 0 => rfl
 | i + 1 => by simp [mI, pO, pM, mH l i]
def wrd (s : List UInt8) (i : Nat) : UInt32 := (s.getD i 0).toUInt32 ||| jN (s.getD (i + 1) 0).toUInt32 8 ||| jN (s.getD (i + 2) 0).toUInt32 16 ||| jN (s.getD (i + 3) 0).toUInt32 24
def E16 : List UInt8 := [101, 120, 112, 97, 110, 100, 32, 51, 50, 45, 98, 121, 116, 101, 32, 107]
def dS (key : List UInt8) : Nat → List UInt32
 | 0 => List.replicate 16 0
 | i + 1 => (dS key i).set i (wrd (E16 ++ key) (4 * i))
def sL (key nonce : List UInt8) (c : Nat) : Nat → List UInt32
 | 0 => (dS key 12).set 12 (UInt32.ofInt c)
 | i + 1 => (sL key nonce c i).set (13 + i) (wrd nonce (4 * i))
theorem jZ (key : List UInt8) : ∀ i, (dS key i).length = 16
 | 0 => by simp [dS]
 | i + 1 => by simp [dS, jZ key i]
theorem sT (key nonce : List UInt8) (c : Nat) : ∀ i, (sL key nonce c i).length = 16
 | 0 => by simp [sL, jZ]
 | i + 1 => by simp [sL, sT key nonce c i]
def by4 (x : UInt32) : Nat → List UInt8
 | 0 => []
 | k + 1 => by4 x k ++ [(cX x (8 * k)).toUInt8]
theorem yA2 (x : UInt32) : ∀ k, (by4 x k).length = k
 | 0 => rfl
 | k + 1 => by simp [by4, yA2 x k]
def yHs (was w : List UInt32) : Nat → List UInt8
 | 0 => []
 | i + 1 => yHs was w i ++ by4 (was.getD i 0 + w.getD i 0) 4
theorem dL (was w : List UInt32) : ∀ i, (yHs was w i).length = 4 * i
 | 0 => rfl
 | i + 1 => by simp [yHs, dL was w i, yA2]; omega
def chB (key nonce : List UInt8) (c : Nat) : List UInt8 := yHs (sL key nonce c 3) (mI (sL key nonce c 3) 10) 16
theorem yA0 (key nonce : List UInt8) (c : Nat) : (chB key nonce c).length = 64 := dL _ _ 16
def qV {α : Type} (a b : List α) : List α := a ++ b.drop a.length
theorem aW {α : Type} {a b : List α} (h : a.length ≤ b.length) : (qV a b).length = b.length := by simp [qV]; omega
theorem yEB {α : Type} {a b : List α} (h : a.length < b.length) (x : α) : (qV a b).set a.length x = qV (a ++ [x]) b := by
 simp only [qV]
 rw [List.set_append_right _ _ (Nat.le_refl _), Nat.sub_self]
 have e : b.drop a.length = b[a.length] :: b.drop (a.length + 1) := List.drop_eq_getElem_cons h
 rw [e, List.set_cons_zero]
 simp
def yA4 (f : Nat → UInt8) (b : List UInt8) : Nat → List UInt8
 | 0 => []
 | i + 1 => yA4 f b i ++ [b.getD i 0 ^^^ f i]
theorem tG (f : Nat → UInt8) (b : List UInt8) : ∀ i, (yA4 f b i).length = i
 | 0 => rfl
 | i + 1 => by simp [yA4, tG f b i]
def chF (key nonce : List UInt8) (c : Nat) (i : Nat) : UInt8 := (chB key nonce (c + i / 64)).getD (i % 64) 0
def chX (key nonce : List UInt8) (c : Nat) (b : List UInt8) : List UInt8 := yA4 (chF key nonce c) b b.length
theorem yAZ (key nonce : List UInt8) (c : Nat) (b : List UInt8) : (chX key nonce c b).length = b.length := tG _ _ _
attribute [push_cast] yB5 cT cW jR pO pM mH jZ sT yA2 dL yA0 tG yAZ
theorem yGs (l : List UInt32) (a b : Nat) : l.set a (l.getD a 0 + l.getD b 0) = kF l a b := rfl
theorem yEy (l : List UInt32) (a d n : Nat) : l.set d (lft (l.getD d 0 ^^^ l.getD a 0) n) = pB l a d n := rfl
attribute [push_cast] yGs yEy
theorem bdec_pos {p : Prop} [Decidable p] (h : p) : decide p = true := decide_eq_true h
theorem bdec_neg {p : Prop} [Decidable p] (h : ¬ p) : decide p = false := decide_eq_false h
attribute [push_cast] bdec_pos bdec_neg
theorem yGz {α : Type} {a b : List α} {i : Nat} (hi : i = a.length) (h : a.length < b.length) (x : α) : (qV a b).set i x = qV (a ++ [x]) b := by subst hi; exact yEB h x
theorem yED {α : Type} {a b : List α} {i : Nat} (hi : i = a.length) : (qV a b)[i]? = b[i]? := by
 subst hi
 rw [qV, List.getElem?_append_right (Nat.le_refl _), Nat.sub_self, List.getElem?_drop, Nat.add_zero]
theorem yCI {α : Type} {a b : List α} (h : b.length ≤ a.length) : qV a b = a := by rw [qV, List.drop_eq_nil_of_le h, List.append_nil]
theorem yEC {α : Type} (b : List α) : qV [] b = b := by simp [qV]
theorem yDg (x : UInt32) : cX x 0 = x := by
 apply UInt32.toNat_inj.1
 simp [cX]
theorem yGW (x : UInt32) : by4 x 4 = [x.toUInt8, (cX x 8).toUInt8, (cX x 16).toUInt8, (cX x 24).toUInt8] := by simp [by4, yDg]
theorem yJk (key nonce : List UInt8) (c : Nat) (b : List UInt8) : chX key nonce c b = yA4 (chF key nonce c) b b.length := rfl
theorem chF_at (key nonce : List UInt8) (c n i : Nat) (h : i < 64) : chF key nonce c (64 * n + i) = (chB key nonce (c + n)).getD i 0 := by
 rw [chF, show (64 * n + i) / 64 = n from by omega, show (64 * n + i) % 64 = i from by omega]
end Go.Proofs.Tryz.Cy

namespace Go.Proofs.Tryz.Cy
open Go Go.Ot
attribute [local simp] num bol txt w8 w16 w32 w64 lst cls xZ xR List.take_of_length_le
attribute [local irreducible] wpK wpS uE wH wV wN wZ xD Le kF pB eT bY
theorem yBM (Γ : Gl) (s : List UInt8) (i : Nat) (h : i + 3 < s.length) (hs : s.length ≤ 1000000) : Go.Ot.Good Γ prog 165 [.t (txt s), .t (num i)] [] (.t (w32 (wrd s i))) [] [] := by
 refine yR F.mix func165 (by rfl) ntmps165 ?_
 refine yD (yA rfl ?_)
 refine yF ?_
 refine yE (yB (yC (yD (yA rfl ?_))))
 iterate 26 refine yY ?_
 refine yE (xO (by kernel_rfl) (yC (yO ?_)))
 refine ⟨.inr rfl, yP [] (by rw [results165]) ?_ ?_ ?_⟩ <;> simp [wrd, w32, show ((i : Int) + 2).toNat = i + 2 from by omega, show ((i : Int) + 3).toNat = i + 3 from by omega]
theorem bV (Γ : Gl) (l : List UInt32) (a b c d : Nat) (hl : l.length = 16) (ha : a < 16) (hb : b < 16) (hc : c < 16) (hd : d < 16) : Go.Ot.Good Γ prog 166 [.msl (.p 0) 0 16 1, .t (num a), .t (num b), .t (num c), .t (num d)] [xR 219 (cls w32 l)] (.tup []) [some (xR 219 (cls w32 (bY l a b c d)))] [] := by
 refine yR F.mix func166 (by rfl) ntmps166 ?_
 refine yD (yA rfl ?_)
 iterate 11 refine yY ?_
 refine yE (xO (by kernel_rfl) (yC (yD (yA rfl ?_))))
 iterate 11 refine yY ?_
 refine yZ [] false (vY Γ ((kF (l) a b).getD d 0 ^^^ (kF (l) a b).getD a 0) 16 (by omega)) ?_
 iterate 2 refine yY ?_
 refine yE (xO (by kernel_rfl) (yC (yD (yA rfl ?_))))
 iterate 11 refine yY ?_
 refine yE (xO (by kernel_rfl) (yC (yD (yA rfl ?_))))
 iterate 11 refine yY ?_
 refine yZ [] false (vY Γ ((kF (pB (kF (l) a b) a d 16) c d).getD b 0 ^^^ (kF (pB (kF (l) a b) a d 16) c d).getD c 0) 12 (by omega)) ?_
 iterate 2 refine yY ?_
 refine yE (xO (by kernel_rfl) (yC (yD (yA rfl ?_))))
 iterate 11 refine yY ?_
 refine yE (xO (by kernel_rfl) (yC (yD (yA rfl ?_))))
 iterate 11 refine yY ?_
 refine yZ [] false (vY Γ ((kF (pB (kF (pB (kF (l) a b) a d 16) c d) c b 12) a b).getD d 0 ^^^ (kF (pB (kF (pB (kF (l) a b) a d 16) c d) c b 12) a b).getD a 0) 8 (by omega)) ?_
 iterate 2 refine yY ?_
 refine yE (xO (by kernel_rfl) (yC (yD (yA rfl ?_))))
 iterate 11 refine yY ?_
 refine yE (xO (by kernel_rfl) (yC (yA rfl ?_)))
 iterate 11 refine yY ?_
 refine yZ [] false (vY Γ ((kF (pB (kF (pB (kF (pB (kF (l) a b) a d 16) c d) c b 12) a b) a d 8) c d).getD b 0 ^^^ (kF (pB (kF (pB (kF (pB (kF (l) a b) a d 16) c d) c b 12) a b) a d 8) c d).getD c 0) 7 (by omega)) ?_
 iterate 2 refine yY ?_
 refine yE (xO (by kernel_rfl) ?_)
 refine ⟨.inl rfl, yP [(.p 0, .p 0)] (by rw [results166]) ?_ ?_ ?_⟩ <;> simp [-List.map_set, -List.map_replicate, -List.reduceReplicate, -List.map_map, -List.map_drop, -List.map_take, bY, eT]
end Go.Proofs.Tryz.Cy

namespace Go.Proofs.Tryz.Cy
open Go Go.Ot
attribute [local simp] num bol txt w8 w16 w32 w64 lst cls xZ xR List.take_of_length_le
attribute [local irreducible] wpK wpS uE wH wV wN wZ xD Le kF pB eT bY gG dZ mI wrd dS sL by4 yHs chB qV
theorem mL (Γ : Gl) (key nonce : List UInt8) (c : Nat) (hk : key.length = 32) (hn : nonce.length = 12) (hc : c < 4294967296) : Go.Ot.Good Γ prog 153 [.t (txt key), .t (txt nonce), .t (num c)] [] (.t (txt (chB key nonce c))) [] [] := by
 refine yR F.mix func153 (by rfl) ntmps153 ?_
 refine yD (yA rfl ?_)
 refine yF ?_
 refine yE (yB (yC (yD (yD (yA rfl ?_)))))
 have hk2 : ((key.length : Int) = 32) = True := eq_true (by omega)
 iterate 4 refine yF ?_
 iterate 3 refine xB ?_
 iterate 2 refine yF ?_
 iterate 2 refine xB ?_
 iterate 2 refine yF ?_
 iterate 2 refine xB ?_
 refine yF ?_
 refine yE (yB (yC (yJ (yL (yC (yD (yA rfl ?_)))))))
 iterate 3 refine yF ?_
 refine yE (yB (yC (yD (yA rfl ?_))))
 refine yF ?_
 refine yE (yB (yC (yD (yD (yA rfl ?_)))))
 refine yF ?_
 refine yE (yB (yC (yH ?_)))
 refine xN (fun sl L (i : Nat) => ⟨setAll (setBad sl [0, 18, 19, 20, 21, 22, 23, 24, 25, 26, 27, 28, 29, 30, 31, 32, 33, 34, 35, 36, 37, 38, 39, 40, 41, 42, 43, 44, 45]) [(9, .t (num i))], Go.Ot.look (vD (.r 4 0 0) (xR 234 (cls w32 (dS key i))) L)⟩) (fun i => i ≤ 12) (fun i => 12 - i) (0) (wF ?_) ?_ ?_
 ·refine yT ?_ ?_ ?_ <;> simp [dS]
 ·(first | omega | simp)
 ·intro i hi
  refine vE ?_
  refine yD (yD (yA rfl ?_))
  iterate 2 refine yF ?_
  refine yE (yB (yC ?_))
  refine vL (fun hc1 => ?_) (fun hc1 => ?_)
  ·(try simp only [zB] at hc1)
   refine yL (yC (yD (yH (yA rfl ?_))))
   iterate 4 refine yF ?_
   refine yU [] false (yBM Γ (E16 ++ key) (4 * i) (by simp [E16]; omega) (by simp [E16]; omega)) ?_
   iterate 2 refine yF ?_
   refine yE (yB (yS (yC (yA rfl ?_))))
   iterate 3 refine yF ?_
   refine yE (yB ?_)
   refine xE (i + 1) (wF ?_) ?_ ?_
   ·refine yT ?_ ?_ ?_ <;> simp [-List.map_set, -List.map_replicate, -List.reduceReplicate, -List.map_map, -List.map_drop, -List.map_take, dS]
   ·(first | omega | (simp_all <;> omega))
   ·(first | omega | (simp only []; omega))
  ·(try simp only [zB] at hc1)
   refine xQ (yM (yN (yK (yC (yD (yA rfl ?_))))))
   refine yF ?_
   refine a_cv32 ?_
   iterate 2 refine yF ?_
   refine yE (yB (yC (yD (yD (yA rfl ?_)))))
   refine yF ?_
   refine yE (yB (yC (yH ?_)))
   obtain rfl : i = 12 := by omega
   refine xN (fun sl L (j : Nat) => ⟨setAll (setBad sl [0, 2, 7, 9, 18, 19, 20, 21, 22, 23, 24, 25, 26, 27, 28, 29, 30, 31, 32, 33, 34, 35, 36, 37, 38, 39, 40, 41, 42, 43, 44, 45, 46, 47, 48, 49, 50, 51, 52, 53, 54, 55, 56, 57, 58, 59]) [(10, .t (num j))], Go.Ot.look (vD (.r 4 0 0) (xR 234 (cls w32 (sL key nonce c j))) L)⟩) (fun j => j ≤ 3) (fun j => 3 - j) (0) (wF ?_) ?_ ?_
   ·refine yT ?_ ?_ ?_ <;> simp [-List.map_set, -List.map_replicate, -List.reduceReplicate, -List.map_map, -List.map_drop, -List.map_take, sL]
   ·(first | omega | simp)
   ·intro j hj
    refine vE ?_
    refine yD (yD (yA rfl ?_))
    iterate 2 refine yF ?_
    refine yE (yB (yC ?_))
    refine vL (fun hc2 => ?_) (fun hc2 => ?_)
    ·(try simp only [zB] at hc2)
     refine yL (yC (yD (yH (yA rfl ?_))))
     iterate 5 refine yF ?_
     refine yU [] false (yBM Γ nonce (4 * j) (by omega) (by omega)) ?_
     iterate 2 refine yF ?_
     (try rw [show ((13 : Int) + (j : Int)).toNat = 13 + j from by omega])
     refine yE (yB (yS (yC (yA rfl ?_))))
     iterate 3 refine yF ?_
     refine yE (yB ?_)
     have e1 : ((13 : Int) + (j : Int)).toNat = 13 + j := by omega
     refine xE (j + 1) (wF ?_) ?_ ?_
     ·refine yT ?_ ?_ ?_ <;> simp [-List.map_set, -List.map_replicate, -List.reduceReplicate, -List.map_map, -List.map_drop, -List.map_take, sL, e1]
     ·(first | omega | (simp_all <;> omega))
     ·(first | omega | (simp only []; omega))
    ·(try simp only [zB] at hc2)
     refine xQ (yM (yN (yK (yC (yD (yA rfl ?_))))))
     obtain rfl : j = 3 := by omega
     refine yF ?_
     refine yAh (eW rfl underlying234 (by kernel_rfl) (sz := 1) (by kernel_rfl) (ob := xR 234 (cls w32 (sL key nonce c 3))) rfl rfl rfl (by simp [xR, looseT]) (by simp [xR, cls, sT]) (by decide) (by decide)) ?_
     iterate 2 refine yF ?_
     refine yE (yB (yC (yD (yD (yA rfl ?_)))))
     refine yF ?_
     refine yE (yB (yC (yH ?_)))
     have hB0 : sL key nonce c 3 ≠ [] := by intro e; have := sT key nonce c 3; rw [e] at this; simp at this
     refine xN (fun sl L (n : Nat) => ⟨setAll (setBad sl [0, 1, 2, 7, 9, 10, 13, 14, 18, 19, 20, 21, 22, 23, 24, 25, 26, 27, 28, 29, 30, 31, 32, 33, 34, 35, 36, 37, 38, 39, 40, 41, 42, 43, 44, 45, 46, 47, 48, 49, 50, 51, 52, 53, 54, 55, 56, 57, 58, 59, 60, 61, 62, 63, 64, 65, 66, 67, 68, 69, 70, 71, 72, 73, 74, 75, 76, 77, 78, 79, 80, 81, 82, 83, 84, 85, 86, 87, 88, 89, 90, 91, 92, 93, 94, 95, 96, 97, 98]) [(12, .t (num n))], Go.Ot.look (vD (.r 14 0 0) (xR 219 (cls w32 (mI (sL key nonce c 3) n))) L)⟩) (fun n => n ≤ 10) (fun n => 10 - n) (0) (wF ?_) ?_ ?_
     ·refine yT ?_ ?_ ?_ <;> simp [-List.map_set, -List.map_replicate, -List.reduceReplicate, -List.map_map, -List.map_drop, -List.map_take, mI, looseT, Nm.isP, hB0]
     ·(first | omega | simp)
     ·intro n hn
      refine vE ?_
      refine yD (yD (yA rfl ?_))
      iterate 2 refine yF ?_
      refine yE (yB (yC ?_))
      refine vL (fun hc3 => ?_) (fun hc3 => ?_)
      ·(try simp only [zB] at hc3)
       refine yL (yC (yD (yH (yD (yD (yA rfl ?_))))))
       refine yF ?_
       refine yE (yB (yC (yH ?_)))
       refine xN (fun sl L (a : Nat) => ⟨setAll (setBad sl [0, 1, 2, 7, 9, 10, 18, 19, 20, 21, 22, 23, 24, 25, 26, 27, 28, 29, 30, 31, 32, 33, 34, 35, 36, 37, 38, 39, 40, 41, 42, 43, 44, 45, 46, 47, 48, 49, 50, 51, 52, 53, 54, 55, 56, 57, 58, 59, 60, 61, 62, 63, 64, 67, 68, 69, 70, 71, 72, 73, 74, 75, 76, 77, 78, 79]) [(13, .t (num a))], Go.Ot.look (vD (.r 14 0 0) (xR 219 (cls w32 (gG (mI (sL key nonce c 3) n) a))) L)⟩) (fun a => a ≤ 4) (fun a => 4 - a) (0) (wF ?_) ?_ ?_
       ·refine yT ?_ ?_ ?_ <;> simp [-List.map_set, -List.map_replicate, -List.reduceReplicate, -List.map_map, -List.map_drop, -List.map_take, gG]
       ·(first | omega | simp)
       ·intro a ha
        refine vE ?_
        refine yD (yD (yA rfl ?_))
        iterate 2 refine yF ?_
        refine yE (yB (yC ?_))
        refine vL (fun hc4 => ?_) (fun hc4 => ?_)
        ·(try simp only [zB] at hc4)
         refine yL (yC (yD (yH (yA rfl ?_))))
         iterate 8 refine yF ?_
         refine wG [.r 14 0 0] [] [] false (bV Γ (gG (mI (sL key nonce c 3) n) a) (a) (4 + a) (8 + a) (12 + a) (by simp [pO, pM, mH, sT]) (by omega) (by omega) (by omega) (by omega)) ?_
         refine yE (yB (yS (yC (yA rfl ?_))))
         iterate 3 refine yF ?_
         refine yE (yB ?_)
         refine xE (a + 1) (wF ?_) ?_ ?_
         ·refine yT ?_ ?_ ?_ <;> simp [-List.map_set, -List.map_replicate, -List.reduceReplicate, -List.map_map, -List.map_drop, -List.map_take, gG]
         ·(first | omega | (simp_all <;> omega))
         ·(first | omega | (simp only []; omega))
        ·(try simp only [zB] at hc4)
         refine xQ (yM (yN (yK (yC (yD (yA rfl ?_))))))
         refine yF ?_
         refine yE (yB (yC (yH ?_)))
         obtain rfl : a = 4 := by omega
         refine xN (fun sl L (b : Nat) => ⟨setAll (setBad sl [0, 1, 2, 7, 9, 10, 18, 19, 20, 21, 22, 23, 24, 25, 26, 27, 28, 29, 30, 31, 32, 33, 34, 35, 36, 37, 38, 39, 40, 41, 42, 43, 44, 45, 46, 47, 48, 49, 50, 51, 52, 53, 54, 55, 56, 57, 58, 59, 60, 61, 62, 63, 64, 67, 68, 69, 70, 71, 72, 73, 74, 75, 76, 77, 78, 79, 80, 81, 82, 83, 84, 85, 86, 87, 88, 89, 90, 91, 92, 93, 94, 95, 96, 97, 98]) [(14, .t (num b))], Go.Ot.look (vD (.r 14 0 0) (xR 219 (cls w32 (dZ (gG (mI (sL key nonce c 3) n) 4) b))) L)⟩) (fun b => b ≤ 4) (fun b => 4 - b) (0) (wF ?_) ?_ ?_
         ·refine yT ?_ ?_ ?_ <;> simp [-List.map_set, -List.map_replicate, -List.reduceReplicate, -List.map_map, -List.map_drop, -List.map_take, dZ]
         ·(first | omega | simp)
         ·intro b hb
          refine vE ?_
          refine yD (yD (yA rfl ?_))
          iterate 2 refine yF ?_
          refine yE (yB (yC ?_))
          refine vL (fun hc5 => ?_) (fun hc5 => ?_)
          ·(try simp only [zB] at hc5)
           refine yL (yC (yD (yH (yA rfl ?_))))
           iterate 14 refine yF ?_
           refine wG [.r 14 0 0] [] [] false (bV Γ (dZ (gG (mI (sL key nonce c 3) n) 4) b) (b) (4 + (b + 1) % 4) (8 + (b + 2) % 4) (12 + (b + 3) % 4) (by simp [pO, pM, mH, sT]) (by omega) (by omega) (by omega) (by omega)) ?_
           refine yE (yB (yS (yC (yA rfl ?_))))
           iterate 3 refine yF ?_
           refine yE (yB ?_)
           refine xE (b + 1) (wF ?_) ?_ ?_
           ·refine yT ?_ ?_ ?_ <;> simp [-List.map_set, -List.map_replicate, -List.reduceReplicate, -List.map_map, -List.map_drop, -List.map_take, dZ]
           ·(first | omega | (simp_all <;> omega))
           ·(first | omega | (simp only []; omega))
          ·(try simp only [zB] at hc5)
           refine xQ (yM (yN (yK (yS (yC (yA rfl ?_))))))
           iterate 3 refine yF ?_
           refine yE (yB ?_)
           obtain rfl : b = 4 := by omega
           refine xE (n + 1) (wF ?_) ?_ ?_
           ·refine yT ?_ ?_ ?_ <;> simp [-List.map_set, -List.map_replicate, -List.reduceReplicate, -List.map_map, -List.map_drop, -List.map_take, mI]
           ·(first | omega | (simp_all <;> omega))
           ·(first | omega | (simp only []; omega))
      ·(try simp only [zB] at hc3)
       refine xQ (yM (yN (yK (yC (yD (yA rfl ?_))))))
       refine yF ?_
       refine yE (yB (yC (yD (yD (yA rfl ?_)))))
       refine yF ?_
       refine yE (yB (yC (yH ?_)))
       obtain rfl : n = 10 := by omega
       refine xN (fun sl L (p : Nat) => ⟨setAll (setBad sl [0, 1, 2, 7, 9, 10, 12, 13, 14, 17, 18, 19, 20, 21, 22, 23, 24, 25, 26, 27, 28, 29, 30, 31, 32, 33, 34, 35, 36, 37, 38, 39, 40, 41, 42, 43, 44, 45, 46, 47, 48, 49, 50, 51, 52, 53, 54, 55, 56, 57, 58, 59, 60, 61, 62, 63, 64, 65, 66, 67, 68, 69, 70, 71, 72, 73, 74, 75, 76, 77, 78, 79, 80, 81, 82, 83, 84, 85, 86, 87, 88, 89, 90, 91, 92, 93, 94, 95, 96, 97, 98, 99, 100, 101, 102, 103, 104, 105, 106, 107, 108, 109, 110, 111, 112, 113, 114, 115, 116, 117, 118, 119, 120, 121, 122, 123, 124]) [(15, .msl (.n 15) 0 (4 * p) 1), (16, .t (num p))], Go.Ot.look (vD (.n 15) (xZ 5 w8 (yHs (sL key nonce c 3) (mI (sL key nonce c 3) 10) p)) L)⟩) (fun p => p ≤ 16) (fun p => 16 - p) (0) (wF ?_) ?_ ?_
       ·refine wL [(.r 4 0 0, .r 4 0 0), (.r 14 0 0, .r 14 0 0)] ?_ ?_ ?_ <;> simp [-List.map_set, -List.map_replicate, -List.reduceReplicate, -List.map_map, -List.map_drop, -List.map_take, yHs]
       ·(first | omega | simp)
       ·intro p hp
        have hcm := UInt32.add_comm ((mI (sL key nonce c 3) 10).getD p 0) ((sL key nonce c 3).getD p 0)
        refine vE ?_
        refine yD (yD (yA rfl ?_))
        iterate 2 refine yF ?_
        refine yE (yB (yC ?_))
        refine vL (fun hc6 => ?_) (fun hc6 => ?_)
        ·(try simp only [zB] at hc6)
         refine yL (yC (yD (yH (yD (yA rfl ?_)))))
         iterate 8 refine yY ?_
         rw [hcm]
         refine yY ?_
         refine yE (xO (by kernel_rfl) (yC (yA rfl ?_)))
         iterate 15 refine yF ?_
         refine yE (yB (yS (yC (yA rfl ?_))))
         iterate 3 refine yF ?_
         refine yE (yB ?_)
         refine xE (p + 1) (wF ?_) ?_ ?_
         ·refine yT ?_ ?_ ?_ <;> simp [-List.map_set, -List.map_replicate, -List.reduceReplicate, -List.map_map, -List.map_drop, -List.map_take, yHs, yGW, Nat.mul_add]
         ·(first | omega | (simp_all <;> omega))
         ·(first | omega | (simp only []; omega))
        ·(try simp only [zB] at hc6)
         refine xQ (yM (yN (yK (yC (yD (yA rfl ?_))))))
         obtain rfl : p = 16 := by omega
         refine yF ?_
         first | refine sV ?_ | refine uO ?_
         refine yF ?_
         refine yE (yB (yC (yO ?_)))
         refine ⟨.inr rfl, yP [] (by rw [results153]) ?_ ?_ ?_⟩ <;> simp [chB]
end Go.Proofs.Tryz.Cy

namespace Go.Proofs.Tryz.Cy
open Go Go.Ot
attribute [local simp] num bol txt w8 w16 w32 w64 lst cls xZ xR List.take_of_length_le
attribute [local irreducible] wpK wpS uE wH wV wN wZ xD Le chB qV yA4 chF chX
theorem yAE (Γ : Gl) (key nonce : List UInt8) (c : Nat) (b : List UInt8) (hk : key.length = 32) (hn : nonce.length = 12) (hb0 : 0 < b.length) (hb1 : b.length ≤ 100000000) (hc : c + (b.length + 63) / 64 ≤ 4294967296) : Go.Ot.Good Γ prog 120 [.t (txt key), .t (txt nonce), .t (num c), .t (txt b)] [] (.t (txt (chX key nonce c b))) [] [] := by
 have hne : (chB key nonce c == []) = false := by have := yA0 key nonce c; cases h : chB key nonce c with | nil => rw [h] at this; simp at this | cons x l => rfl
 refine yR F.mix func120 (by rfl) ntmps120 ?_
 refine yD (yA rfl ?_)
 refine yF ?_
 refine yE (yB (yC (yD (yD (yA rfl ?_)))))
 iterate 4 refine yF ?_
 iterate 3 refine xB ?_
 refine wT [] false (mL Γ key nonce c hk hn (by omega)) ?_
 refine xB (hs := by (simp only [push_cast, hne] <;> rfl)) ?_
 iterate 2 refine yF ?_
 iterate 7 refine xB ?_
 refine yF ?_
 refine yE (yB (yC (yJ (yL (yC (yD (yA rfl ?_)))))))
 iterate 3 refine yF ?_
 refine yE (yB (yC (yD (yD (yA rfl ?_)))))
 refine yF ?_
 refine yE (yB (yC (yH ?_)))
 refine xN (fun sl L (n : Nat) => ⟨setAll (setBad sl [3, 11, 12, 13, 14, 15, 16, 17, 18, 19, 20, 21, 22, 23, 24, 25, 26, 27, 28, 29, 30, 31, 32, 33, 34, 35, 36, 37, 38, 39, 40, 41, 42, 43, 44, 45, 46, 47, 48, 49, 50, 51, 52, 53, 54, 55, 56, 57, 58, 59, 60, 61, 62, 63, 64, 65, 66, 67, 68, 69, 70]) [(10, .t (num (64 * (n : Int))))], Go.Ot.look (vD (.r 3 1 0) (xZ 5 w8 (qV (yA4 (chF key nonce c) b (min (64 * n) b.length)) b)) L)⟩) (fun n => n ≤ (b.length + 63) / 64) (fun n => (b.length + 63) / 64 - n) (0) (wF ?_) ?_ ?_
 ·refine yT ?_ ?_ ?_ <;> simp [-List.map_set, -List.map_replicate, -List.reduceReplicate, -List.map_map, -List.map_drop, -List.map_take, yA4, yEC] <;> (try omega)
 ·(first | omega | simp)
 ·intro n hnm
  have hfl0 : (qV (yA4 (chF key nonce c) b (min (64 * n) b.length)) b).length = b.length := by rw [aW (by simp [tG]; omega)]
  refine vE ?_
  refine yD (yD (yA rfl ?_))
  iterate 4 refine yF ?_
  refine yE (yB (yC ?_))
  refine vL (fun hc1 => ?_) (fun hc1 => ?_)
  ·(try simp only [zB] at hc1)
   refine yL (yC (yD (yH (yD (yA rfl ?_)))))
   iterate 6 refine yF ?_
   refine yU [] false (mL Γ key nonce (c + n) hk hn (by omega)) ?_
   refine yF ?_
   refine yE (yB (yC (yD (yA rfl ?_))))
   iterate 2 refine yF ?_
   refine yE (yB (yC (yH ?_)))
   refine xN (fun sl L (i : Nat) => ⟨setAll (setBad sl [3, 13, 14, 15, 16, 17, 18, 19, 20, 21, 22, 23, 24, 25, 26, 27, 28, 29, 30, 31, 32, 33, 34, 35, 36, 37, 40, 41, 42, 43, 44, 45, 46, 47, 48, 49, 50, 51, 52, 53, 54, 55, 56, 57, 58, 59, 60, 61, 62, 63, 64, 65, 66, 67, 68, 69, 70]) [(12, .t (num (64 * (n : Int) + (i : Int))))], Go.Ot.look (vD (.r 3 1 0) (xZ 5 w8 (qV (yA4 (chF key nonce c) b (64 * n + i)) b)) L)⟩) (fun i => i ≤ min 64 (b.length - 64 * n)) (fun i => 64 - i) (0) (wF ?_) ?_ ?_
   ·refine yT ?_ ?_ ?_ <;> simp [-List.map_set, -List.map_replicate, -List.reduceReplicate, -List.map_map, -List.map_drop, -List.map_take, show min (64 * n) b.length = 64 * n from by omega]
   ·(first | omega | simp)
   ·intro i hi
    have hx := yA0 key nonce (c + n)
    have hfl : (qV (yA4 (chF key nonce c) b (64 * n + i)) b).length = b.length := by rw [aW (by simp [tG]; omega)]
    refine vE ?_
    refine yD (yD (yA rfl ?_))
    iterate 5 refine yF ?_
    first | refine xB ?_ | refine wJ ?_ | refine uP ?_
    first | refine xB ?_ | refine wJ ?_ | refine uP ?_
    first | refine xB ?_ | refine wJ ?_ | refine uP ?_
    first | refine xB ?_ | refine wJ ?_ | refine uP ?_
    refine yF ?_
    refine yE (yB (yC ?_))
    refine vL (fun hc2 => ?_) (fun hc2 => ?_)
    ·(try simp only [zB] at hc2)
     refine yL (yC (yD (yH (yA rfl ?_))))
     iterate 12 refine yY ?_
     refine yE (xO (by kernel_rfl) (yS (yC (yA rfl ?_))))
     iterate 3 refine yF ?_
     refine yE (yB ?_)
     have e3 : ((64 : Int) * (n : Int) + (i : Int) - 64 * (n : Int)).toNat = i := by omega
     have e4 := yED (a := yA4 (chF key nonce c) b (64 * n + i)) (b := b) (i := 64 * n + i) (tG _ _ _).symm
     have e1 : ((64 : Int) * (n : Int) + (i : Int)).toNat = 64 * n + i := by omega
     have e2 := chF_at key nonce c n i (by omega)
     have hset := fun x : UInt8 => yGz (a := yA4 (chF key nonce c) b (64 * n + i)) (b := b) (i := 64 * n + i) (tG _ _ _).symm (by simp [tG]; omega) x
     simp only [List.getD_eq_getElem?_getD] at e2
     refine xE (i + 1) (wF ?_) ?_ ?_
     ·refine yT ?_ ?_ ?_ <;> simp [-List.map_set, -List.map_replicate, -List.reduceReplicate, -List.map_map, -List.map_drop, -List.map_take, e1, e2, e3, e4, hset, yA4, Int.add_assoc, show 64 * n + (i + 1) = (64 * n + i) + 1 from rfl]
     ·(first | omega | (simp_all <;> omega))
     ·(first | omega | (simp only []; omega))
    ·(try simp only [zB] at hc2)
     refine xQ (yM (yN (yK (yS (yC (yA rfl ?_))))))
     iterate 3 refine yF ?_
     refine yE (yB ?_)
     obtain rfl : i = min 64 (b.length - 64 * n) := by omega
     refine xE (n + 1) (wF ?_) ?_ ?_
     ·refine yT ?_ ?_ ?_ <;> simp [-List.map_set, -List.map_replicate, -List.reduceReplicate, -List.map_map, -List.map_drop, -List.map_take, Int.mul_add, show 64 * n + min 64 (b.length - 64 * n) = min (64 * (n + 1)) b.length from by omega] <;> (try omega)
     ·(first | omega | (simp_all <;> omega))
     ·(first | omega | (simp only []; omega))
  ·(try simp only [zB] at hc1)
   refine xQ (yM (yN (yK (yC (yD (yA rfl ?_))))))
   rw [show min (64 * n) b.length = b.length from by omega, yCI (by simp [tG]), ← yJk]
   refine yF ?_
   first | refine sV ?_ | refine uO ?_
   refine yF ?_
   refine yE (yB (yC (yO ?_)))
   refine ⟨.inr rfl, yP [] (by rw [results120]) ?_ ?_ ?_⟩ <;> simp [yAZ]
end Go.Proofs.Tryz.Cy

namespace Go.Proofs.Tryz.Cy
open Go Go.Ot
def yHw (key nonce b : List UInt8) : List UInt8 := chX (key.take 32) nonce 1 b
def tagB (key nonce ad c : List UInt8) : List UInt8 := (hmacB (key.drop 32) (eight ad.length ++ ad ++ nonce ++ c)).take 16
def sealB (key nonce ad b : List UInt8) : List UInt8 := if key.length = 64 ∧ nonce.length = 12 ∧ b.length ≤ 1048576 then yHw key nonce b ++ tagB key nonce ad (yHw key nonce b) else []
theorem dU (key nonce b : List UInt8) : (yHw key nonce b).length = b.length := yAZ _ _ _ _
theorem yBh (key nonce ad c : List UInt8) : (tagB key nonce ad c).length = 16 := by simp [tagB, hmacB_len]
theorem yGn (key nonce b : List UInt8) : yHw key nonce b = chX (key.take 32) nonce 1 b := rfl
theorem yGm (key nonce : List UInt8) : yHw key nonce [] = [] := rfl
attribute [push_cast] dU yBh
attribute [local simp] num bol txt w8 w16 w32 w64 lst cls xZ xR List.take_of_length_le
attribute [local irreducible] wpK wpS uE wH wV wN wZ xD Le wX tQ lI pC cN chunks takeB yAf yAM sha uH qC aT hmacB keyOf chX yHw tagB eight
theorem yAF (Γ : Gl) (key nonce ad c : List UInt8) (hk : key.length ≤ 1000) (hk2 : 32 ≤ key.length) (hn : nonce.length ≤ 1000) (ha : ad.length ≤ 1000000) (hc : c.length ≤ 2000000) : Go.Ot.Good Γ prog 121 [.t (txt key), .t (txt nonce), .t (txt ad), .t (txt c)] [] (.t (txt (tagB key nonce ad c))) [] [] := by
 refine yR F.mix func121 (by rfl) ntmps121 ?_
 refine yD (yA rfl ?_)
 refine yF ?_
 refine yE (yB (yC (yD (yA rfl ?_))))
 iterate 4 refine yY ?_
 refine yZ [] false (lM Γ ad.length) ?_
 iterate 6 refine yY ?_
 refine yZ [] false (refmac_good Γ (key.drop 32) (eight ad.length ++ ad ++ nonce ++ c) (by simp; omega) (by simp [pL]; omega)) ?_
 iterate 2 refine yY ?_
 refine yE (xO (by kernel_rfl) (yC (yO ?_)))
 refine ⟨.inr rfl, yP [] (by rw [results121]) ?_ ?_ ?_⟩ <;> simp [tagB]
theorem bU (Γ : Gl) (key nonce : List UInt8) (c : Int) : Go.Ot.Good Γ prog 120 [.t (txt key), .t (txt nonce), .t (num c), .t (txt [])] [] (.t (txt [])) [] [] := by
 refine yR F.mix func120 (by rfl) ntmps120 ?_
 refine yD (yA rfl ?_)
 refine yF ?_
 refine yE (yB (yC (yD (yD (yA rfl ?_)))))
 iterate 4 refine yF ?_
 iterate 5 refine wJ ?_
 iterate 2 refine yF ?_
 iterate 7 refine wJ ?_
 refine yF ?_
 refine yE (yB (yC (xF (yD (yA rfl ?_)))))
 refine yF ?_
 refine yE (yB (yC (yO (yG ?_))))
 refine ⟨.inr rfl, yP [] (by rw [results120]) ?_ ?_ ?_⟩ <;> simp
theorem bW (Γ : Gl) (key nonce s : List UInt8) (hk : key.length = 64) (hn : nonce.length = 12) (hs : s.length ≤ 1048576) : Go.Ot.Good Γ prog 120 [.t (txt (key.take 32)), .t (txt nonce), .t (num 1), .t (txt s)] [] (.t (txt (yHw key nonce s))) [] [] := by
 rcases s with _ | ⟨x, s⟩
 ·rw [yGm]; exact bU Γ (key.take 32) nonce 1
 ·rw [yGn]; exact yAE Γ (key.take 32) nonce 1 (x :: s) (by simp; omega) hn (by simp) (by omega) (by simp at hs ⊢; omega)
theorem refseal_ok (Γ : Gl) (key nonce ad s : List UInt8) (h1 : key.length = 64) (h2 : nonce.length = 12) (h3 : s.length ≤ 1048576) (ha : ad.length ≤ 1000000) : Go.Ot.Good Γ prog 79 [.t (txt key), .t (txt nonce), .t (txt ad), .t (txt s)] [] (.t (txt (sealB key nonce ad s))) [] [] := by
 refine yR F.mix func79 (by rfl) ntmps79 ?_
 refine yD (yA rfl ?_)
 refine yF ?_
 refine yE (yB (yC (yD (yD (yA rfl ?_)))))
 iterate 4 refine yF ?_
 iterate 3 refine xB ?_
 iterate 2 refine yF ?_
 iterate 3 refine xB ?_
 refine yF ?_
 refine yE (yB (yC (yJ (yL (yC (yD (yA rfl ?_)))))))
 iterate 4 refine yF ?_
 refine yU [] false (bW Γ key nonce s h1 h2 h3) ?_
 refine yF ?_
 refine yE (yB (yC (yD (yA rfl ?_))))
 iterate 5 refine yF ?_
 refine yU [] false (yAF Γ key nonce ad (yHw key nonce s) (by omega) (by omega) (by omega) ha (by rw [dU]; omega)) ?_
 iterate 2 refine yF ?_
 refine yE (yB (yC (yO ?_)))
 refine ⟨.inr rfl, yP [] (by rw [results79]) ?_ ?_ ?_⟩ <;> simp [sealB, h1, h2, h3]
end Go.Proofs.Tryz.Cy
