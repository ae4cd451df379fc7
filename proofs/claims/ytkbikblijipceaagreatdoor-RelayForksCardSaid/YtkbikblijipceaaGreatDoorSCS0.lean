/- Contracts of this program's functions. -/
import Derived.Test.YtkbikblijipceaaGreatDoorSD
import Derived.Test.YtkbikblijipceaaGreatDoorOtE
import Derived.Test.YtkbikblijipceaaGreatDoorSJ
import Derived.Test.YtkbikblijipceaaGreatDoorSCH1
set_option maxHeartbeats 4000000
set_option maxRecDepth 100000
set_option linter.unusedVariables false
set_option linter.unusedSimpArgs false
namespace Go.Proofs.Tryz.Cy
open Go Go.Ot
def kB (l : List UInt32) (a b : Nat) : List UInt32 := l.set a (l.getD a 0 + l.getD b 0)
def qY (l : List UInt32) (a d n : Nat) : List UInt32 := l.set d (lft (l.getD d 0 ^^^ l.getD a 0) n)
def eD (l : List UInt32) (a b d n : Nat) : List UInt32 := qY (kB l a b) a d n
def bH (l : List UInt32) (a b c d : Nat) : List UInt32 := eD (eD (eD (eD l a b d 16) c d b 12) a b d 8) c d b 7
def hJ (l : List UInt32) : Nat → List UInt32
 | 0 => l
 | i + 1 => bH (hJ l i) i (4 + i) (8 + i) (12 + i)
def dJ (l : List UInt32) : Nat → List UInt32
 | 0 => l
 | i + 1 => bH (dJ l i) i (4 + (i + 1) % 4) (8 + (i + 2) % 4) (12 + (i + 3) % 4)
def mE (l : List UInt32) : Nat → List UInt32
 | 0 => l
 | i + 1 => dJ (hJ (mE l i) 4) 4
theorem yBI (l : List UInt32) (a b : Nat) : (kB l a b).length = l.length := by simp [kB]
theorem cE (l : List UInt32) (a d n : Nat) : (qY l a d n).length = l.length := by simp [qY]
theorem cI (l : List UInt32) (a b d n : Nat) : (eD l a b d n).length = l.length := by simp [eD, yBI, cE]
theorem jL (l : List UInt32) (a b c d : Nat) : (bH l a b c d).length = l.length := by simp [bH, cI]
theorem pN (l : List UInt32) : ∀ i, (hJ l i).length = l.length
 | 0 => rfl
 | i + 1 => by simp [hJ, jL, pN l i]
theorem pL (l : List UInt32) : ∀ i, (dJ l i).length = l.length
 | 0 => rfl
 | i + 1 => by simp [dJ, jL, pL l i]
theorem mD (l : List UInt32) : ∀ i, (mE l i).length = l.length
 | 0 => rfl
 | i + 1 => by simp [mE, pN, pL, mD l i]
def wrd (s : List UInt8) (i : Nat) : UInt32 := (s.getD i 0).toUInt32 ||| jH (s.getD (i + 1) 0).toUInt32 8 ||| jH (s.getD (i + 2) 0).toUInt32 16 ||| jH (s.getD (i + 3) 0).toUInt32 24
def E16 : List UInt8 := [101, 120, 112, 97, 110, 100, 32, 51, 50, 45, 98, 121, 116, 101, 32, 107]
def dE (key : List UInt8) : Nat → List UInt32
 | 0 => List.replicate 16 0
 | i + 1 => (dE key i).set i (wrd (E16 ++ key) (4 * i))
def sL (key nonce : List UInt8) (c : Nat) : Nat → List UInt32
 | 0 => (dE key 12).set 12 (UInt32.ofInt c)
 | i + 1 => (sL key nonce c i).set (13 + i) (wrd nonce (4 * i))
theorem jT (key : List UInt8) : ∀ i, (dE key i).length = 16
 | 0 => by simp [dE]
 | i + 1 => by simp [dE, jT key i]
theorem sU (key nonce : List UInt8) (c : Nat) : ∀ i, (sL key nonce c i).length = 16
 | 0 => by simp [sL, jT]
 | i + 1 => by simp [sL, sU key nonce c i]
def by4 (x : UInt32) : Nat → List UInt8
 | 0 => []
 | k + 1 => by4 x k ++ [(cJ x (8 * k)).toUInt8]
theorem yAL (x : UInt32) : ∀ k, (by4 x k).length = k
 | 0 => rfl
 | k + 1 => by simp [by4, yAL x k]
def yG5 (was w : List UInt32) : Nat → List UInt8
 | 0 => []
 | i + 1 => yG5 was w i ++ by4 (was.getD i 0 + w.getD i 0) 4
theorem eV (was w : List UInt32) : ∀ i, (yG5 was w i).length = 4 * i
 | 0 => rfl
 | i + 1 => by simp [yG5, eV was w i, yAL]; omega
def chB (key nonce : List UInt8) (c : Nat) : List UInt8 := yG5 (sL key nonce c 3) (mE (sL key nonce c 3) 10) 16
theorem yAJ (key nonce : List UInt8) (c : Nat) : (chB key nonce c).length = 64 := eV _ _ 16
def qT {α : Type} (a b : List α) : List α := a ++ b.drop a.length
theorem aD {α : Type} {a b : List α} (h : a.length ≤ b.length) : (qT a b).length = b.length := by simp [qT]; omega
theorem yD9 {α : Type} {a b : List α} (h : a.length < b.length) (x : α) : (qT a b).set a.length x = qT (a ++ [x]) b := by
 simp only [qT]
 rw [List.set_append_right _ _ (Nat.le_refl _), Nat.sub_self]
 have e : b.drop a.length = b[a.length] :: b.drop (a.length + 1) := List.drop_eq_getElem_cons h
 rw [e, List.set_cons_zero]
 simp
def yAN (f : Nat → UInt8) (b : List UInt8) : Nat → List UInt8
 | 0 => []
 | i + 1 => yAN f b i ++ [b.getD i 0 ^^^ f i]
theorem tF (f : Nat → UInt8) (b : List UInt8) : ∀ i, (yAN f b i).length = i
 | 0 => rfl
 | i + 1 => by simp [yAN, tF f b i]
def chF (key nonce : List UInt8) (c : Nat) (i : Nat) : UInt8 := (chB key nonce (c + i / 64)).getD (i % 64) 0
def chX (key nonce : List UInt8) (c : Nat) (b : List UInt8) : List UInt8 := yAN (chF key nonce c) b b.length
theorem yAI (key nonce : List UInt8) (c : Nat) (b : List UInt8) : (chX key nonce c b).length = b.length := tF _ _ _
attribute [push_cast] yBI cE cI jL pN pL mD jT sU yAL eV yAJ tF yAI
theorem yF1 (l : List UInt32) (a b : Nat) : l.set a (l.getD a 0 + l.getD b 0) = kB l a b := rfl
theorem yD6 (l : List UInt32) (a d n : Nat) : l.set d (lft (l.getD d 0 ^^^ l.getD a 0) n) = qY l a d n := rfl
attribute [push_cast] yF1 yD6
theorem bdec_pos {p : Prop} [Decidable p] (h : p) : decide p = true := decide_eq_true h
theorem bdec_neg {p : Prop} [Decidable p] (h : ¬ p) : decide p = false := decide_eq_false h
attribute [push_cast] bdec_pos bdec_neg
theorem yF9 {α : Type} {a b : List α} {i : Nat} (hi : i = a.length) (h : a.length < b.length) (x : α) : (qT a b).set i x = qT (a ++ [x]) b := by subst hi; exact yD9 h x
theorem yEb {α : Type} {a b : List α} {i : Nat} (hi : i = a.length) : (qT a b)[i]? = b[i]? := by
 subst hi
 rw [qT, List.getElem?_append_right (Nat.le_refl _), Nat.sub_self, List.getElem?_drop, Nat.add_zero]
theorem yCn {α : Type} {a b : List α} (h : b.length ≤ a.length) : qT a b = a := by rw [qT, List.drop_eq_nil_of_le h, List.append_nil]
theorem yEa {α : Type} (b : List α) : qT [] b = b := by simp [qT]
theorem yCR (x : UInt32) : cJ x 0 = x := by
 apply UInt32.toNat_inj.1
 simp [cJ]
theorem yGw (x : UInt32) : by4 x 4 = [x.toUInt8, (cJ x 8).toUInt8, (cJ x 16).toUInt8, (cJ x 24).toUInt8] := by simp [by4, yCR]
theorem yIW (key nonce : List UInt8) (c : Nat) (b : List UInt8) : chX key nonce c b = yAN (chF key nonce c) b b.length := rfl
theorem chF_at (key nonce : List UInt8) (c n i : Nat) (h : i < 64) : chF key nonce c (64 * n + i) = (chB key nonce (c + n)).getD i 0 := by
 rw [chF, show (64 * n + i) / 64 = n from by omega, show (64 * n + i) % 64 = i from by omega]
end Go.Proofs.Tryz.Cy

namespace Go.Proofs.Tryz.Cy
open Go Go.Ot
attribute [local simp] num bol txt w8 w16 w32 w64 lst cls wE xZ List.take_of_length_le
attribute [local irreducible] wpK wpS uI wH wW wM vC xB Le kB qY eD bH
theorem yBo (Γ : Gl) (s : List UInt8) (i : Nat) (h : i + 3 < s.length) (hs : s.length ≤ 1000000) : Go.Ot.Good Γ prog 165 [.t (txt s), .t (num i)] [] (.t (w32 (wrd s i))) [] [] := by
 refine yR F.mix func165 (by rfl) ntmps165 ?_
 refine yD (yA rfl ?_)
 refine yF ?_
 refine yE (yB (yC (yD (yA rfl ?_))))
 iterate 26 refine yW ?_
 refine yE (xP (by kernel_rfl) (yC (yP ?_)))
 refine ⟨.inr rfl, yQ [] (by rw [results165]) ?_ ?_ ?_⟩ <;> simp [wrd, w32, show ((i : Int) + 2).toNat = i + 2 from by omega, show ((i : Int) + 3).toNat = i + 3 from by omega]
theorem bE (Γ : Gl) (l : List UInt32) (a b c d : Nat) (hl : l.length = 16) (ha : a < 16) (hb : b < 16) (hc : c < 16) (hd : d < 16) : Go.Ot.Good Γ prog 166 [.msl (.p 0) 0 16 1, .t (num a), .t (num b), .t (num c), .t (num d)] [xZ 219 (cls w32 l)] (.tup []) [some (xZ 219 (cls w32 (bH l a b c d)))] [] := by
 refine yR F.mix func166 (by rfl) ntmps166 ?_
 refine yD (yA rfl ?_)
 iterate 11 refine yW ?_
 refine yE (xP (by kernel_rfl) (yC (yD (yA rfl ?_))))
 iterate 11 refine yW ?_
 refine yV [] false (vX Γ ((kB (l) a b).getD d 0 ^^^ (kB (l) a b).getD a 0) 16 (by omega)) ?_
 iterate 2 refine yW ?_
 refine yE (xP (by kernel_rfl) (yC (yD (yA rfl ?_))))
 iterate 11 refine yW ?_
 refine yE (xP (by kernel_rfl) (yC (yD (yA rfl ?_))))
 iterate 11 refine yW ?_
 refine yV [] false (vX Γ ((kB (qY (kB (l) a b) a d 16) c d).getD b 0 ^^^ (kB (qY (kB (l) a b) a d 16) c d).getD c 0) 12 (by omega)) ?_
 iterate 2 refine yW ?_
 refine yE (xP (by kernel_rfl) (yC (yD (yA rfl ?_))))
 iterate 11 refine yW ?_
 refine yE (xP (by kernel_rfl) (yC (yD (yA rfl ?_))))
 iterate 11 refine yW ?_
 refine yV [] false (vX Γ ((kB (qY (kB (qY (kB (l) a b) a d 16) c d) c b 12) a b).getD d 0 ^^^ (kB (qY (kB (qY (kB (l) a b) a d 16) c d) c b 12) a b).getD a 0) 8 (by omega)) ?_
 iterate 2 refine yW ?_
 refine yE (xP (by kernel_rfl) (yC (yD (yA rfl ?_))))
 iterate 11 refine yW ?_
 refine yE (xP (by kernel_rfl) (yC (yA rfl ?_)))
 iterate 11 refine yW ?_
 refine yV [] false (vX Γ ((kB (qY (kB (qY (kB (qY (kB (l) a b) a d 16) c d) c b 12) a b) a d 8) c d).getD b 0 ^^^ (kB (qY (kB (qY (kB (qY (kB (l) a b) a d 16) c d) c b 12) a b) a d 8) c d).getD c 0) 7 (by omega)) ?_
 iterate 2 refine yW ?_
 refine yE (xP (by kernel_rfl) ?_)
 refine ⟨.inl rfl, yQ [(.p 0, .p 0)] (by rw [results166]) ?_ ?_ ?_⟩ <;> simp [-List.map_set, -List.map_replicate, -List.reduceReplicate, -List.map_map, -List.map_drop, -List.map_take, bH, eD]
end Go.Proofs.Tryz.Cy

namespace Go.Proofs.Tryz.Cy
open Go Go.Ot
attribute [local simp] num bol txt w8 w16 w32 w64 lst cls wE xZ List.take_of_length_le
attribute [local irreducible] wpK wpS uI wH wW wM vC xB Le kB qY eD bH hJ dJ mE wrd dE sL by4 yG5 chB qT
theorem mH (Γ : Gl) (key nonce : List UInt8) (c : Nat) (hk : key.length = 32) (hn : nonce.length = 12) (hc : c < 4294967296) : Go.Ot.Good Γ prog 153 [.t (txt key), .t (txt nonce), .t (num c)] [] (.t (txt (chB key nonce c))) [] [] := by
 refine yR F.mix func153 (by rfl) ntmps153 ?_
 refine yD (yA rfl ?_)
 refine yF ?_
 refine yE (yB (yC (yD (yD (yA rfl ?_)))))
 have hk2 : ((key.length : Int) = 32) = True := eq_true (by omega)
 iterate 4 refine yF ?_
 iterate 3 refine yX ?_
 iterate 2 refine yF ?_
 iterate 2 refine yX ?_
 iterate 2 refine yF ?_
 iterate 2 refine yX ?_
 refine yF ?_
 refine yE (yB (yC (yJ (yK (yC (yD (yA rfl ?_)))))))
 iterate 3 refine yF ?_
 refine yE (yB (yC (yD (yA rfl ?_))))
 refine yF ?_
 refine yE (yB (yC (yD (yD (yA rfl ?_)))))
 refine yF ?_
 refine yE (yB (yC (yI ?_)))
 refine xJ (fun sl L (i : Nat) => ⟨setAll (setBad sl [0, 18, 19, 20, 21, 22, 23, 24, 25, 26, 27, 28, 29, 30, 31, 32, 33, 34, 35, 36, 37, 38, 39, 40, 41, 42, 43, 44, 45]) [(9, .t (num i))], Go.Ot.look (vJ (.r 4 0 0) (xZ 234 (cls w32 (dE key i))) L)⟩) (fun i => i ≤ 12) (fun i => 12 - i) (0) (wF ?_) ?_ ?_
 ·refine yT ?_ ?_ ?_ <;> simp [dE]
 ·(first | omega | simp)
 ·intro i hi
  refine vL ?_
  refine yD (yD (yA rfl ?_))
  iterate 2 refine yF ?_
  refine yE (yB (yC ?_))
  refine vM (fun hc1 => ?_) (fun hc1 => ?_)
  ·(try simp only [Bool.and_eq_true, Bool.or_eq_true, Bool.or_eq_false_iff, Bool.not_eq_true', Bool.not_eq_false', xH, xI, Bool.and_eq_false_imp, beq_iff_eq, beq_eq_false_iff_ne, ne_eq] at hc1)
   refine yK (yC (yD (yI (yA rfl ?_))))
   iterate 4 refine yF ?_
   refine yU [] false (yBo Γ (E16 ++ key) (4 * i) (by simp [E16]; omega) (by simp [E16]; omega)) ?_
   iterate 2 refine yF ?_
   refine yE (yB (yS (yC (yA rfl ?_))))
   iterate 3 refine yF ?_
   refine yE (yB ?_)
   refine xF (i + 1) (wF ?_) ?_ ?_
   ·refine yT ?_ ?_ ?_ <;> simp [-List.map_set, -List.map_replicate, -List.reduceReplicate, -List.map_map, -List.map_drop, -List.map_take, dE]
   ·(first | omega | (simp_all <;> omega))
   ·(first | omega | (simp only []; omega))
  ·(try simp only [Bool.and_eq_true, Bool.or_eq_true, Bool.or_eq_false_iff, Bool.not_eq_true', Bool.not_eq_false', xH, xI, Bool.and_eq_false_imp, beq_iff_eq, beq_eq_false_iff_ne, ne_eq] at hc1)
   refine xQ (yM (yN (yL (yC (yD (yA rfl ?_))))))
   refine yF ?_
   refine a_cv32 ?_
   iterate 2 refine yF ?_
   refine yE (yB (yC (yD (yD (yA rfl ?_)))))
   refine yF ?_
   refine yE (yB (yC (yI ?_)))
   obtain rfl : i = 12 := by omega
   refine xJ (fun sl L (j : Nat) => ⟨setAll (setBad sl [0, 2, 7, 9, 18, 19, 20, 21, 22, 23, 24, 25, 26, 27, 28, 29, 30, 31, 32, 33, 34, 35, 36, 37, 38, 39, 40, 41, 42, 43, 44, 45, 46, 47, 48, 49, 50, 51, 52, 53, 54, 55, 56, 57, 58, 59]) [(10, .t (num j))], Go.Ot.look (vJ (.r 4 0 0) (xZ 234 (cls w32 (sL key nonce c j))) L)⟩) (fun j => j ≤ 3) (fun j => 3 - j) (0) (wF ?_) ?_ ?_
   ·refine yT ?_ ?_ ?_ <;> simp [-List.map_set, -List.map_replicate, -List.reduceReplicate, -List.map_map, -List.map_drop, -List.map_take, sL]
   ·(first | omega | simp)
   ·intro j hj
    refine vL ?_
    refine yD (yD (yA rfl ?_))
    iterate 2 refine yF ?_
    refine yE (yB (yC ?_))
    refine vM (fun hc2 => ?_) (fun hc2 => ?_)
    ·(try simp only [Bool.and_eq_true, Bool.or_eq_true, Bool.or_eq_false_iff, Bool.not_eq_true', Bool.not_eq_false', xH, xI, Bool.and_eq_false_imp, beq_iff_eq, beq_eq_false_iff_ne, ne_eq] at hc2)
     refine yK (yC (yD (yI (yA rfl ?_))))
     iterate 5 refine yF ?_
     refine yU [] false (yBo Γ nonce (4 * j) (by omega) (by omega)) ?_
     iterate 2 refine yF ?_
     (try rw [show ((13 : Int) + (j : Int)).toNat = 13 + j from by omega])
     refine yE (yB (yS (yC (yA rfl ?_))))
     iterate 3 refine yF ?_
     refine yE (yB ?_)
     have e1 : ((13 : Int) + (j : Int)).toNat = 13 + j := by omega
     refine xF (j + 1) (wF ?_) ?_ ?_
     ·refine yT ?_ ?_ ?_ <;> simp [-List.map_set, -List.map_replicate, -List.reduceReplicate, -List.map_map, -List.map_drop, -List.map_take, sL, e1]
     ·(first | omega | (simp_all <;> omega))
     ·(first | omega | (simp only []; omega))
    ·(try simp only [Bool.and_eq_true, Bool.or_eq_true, Bool.or_eq_false_iff, Bool.not_eq_true', Bool.not_eq_false', xH, xI, Bool.and_eq_false_imp, beq_iff_eq, beq_eq_false_iff_ne, ne_eq] at hc2)
     refine xQ (yM (yN (yL (yC (yD (yA rfl ?_))))))
     obtain rfl : j = 3 := by omega
     refine yF ?_
     refine aS (eG rfl underlying234 (by kernel_rfl) (sz := 1) (by kernel_rfl) (ob := xZ 234 (cls w32 (sL key nonce c 3))) rfl rfl rfl (by simp [xZ, looseT]) (by simp [xZ, cls, sU]) (by decide) (by decide)) ?_
     iterate 2 refine yF ?_
     refine yE (yB (yC (yD (yD (yA rfl ?_)))))
     refine yF ?_
     refine yE (yB (yC (yI ?_)))
     have hB0 : sL key nonce c 3 ≠ [] := by intro e; have := sU key nonce c 3; rw [e] at this; simp at this
     refine xJ (fun sl L (n : Nat) => ⟨setAll (setBad sl [0, 1, 2, 7, 9, 10, 13, 14, 18, 19, 20, 21, 22, 23, 24, 25, 26, 27, 28, 29, 30, 31, 32, 33, 34, 35, 36, 37, 38, 39, 40, 41, 42, 43, 44, 45, 46, 47, 48, 49, 50, 51, 52, 53, 54, 55, 56, 57, 58, 59, 60, 61, 62, 63, 64, 65, 66, 67, 68, 69, 70, 71, 72, 73, 74, 75, 76, 77, 78, 79, 80, 81, 82, 83, 84, 85, 86, 87, 88, 89, 90, 91, 92, 93, 94, 95, 96, 97, 98]) [(12, .t (num n))], Go.Ot.look (vJ (.r 14 0 0) (xZ 219 (cls w32 (mE (sL key nonce c 3) n))) L)⟩) (fun n => n ≤ 10) (fun n => 10 - n) (0) (wF ?_) ?_ ?_
     ·refine yT ?_ ?_ ?_ <;> simp [-List.map_set, -List.map_replicate, -List.reduceReplicate, -List.map_map, -List.map_drop, -List.map_take, mE, looseT, Nm.isP, hB0]
     ·(first | omega | simp)
     ·intro n hn
      refine vL ?_
      refine yD (yD (yA rfl ?_))
      iterate 2 refine yF ?_
      refine yE (yB (yC ?_))
      refine vM (fun hc3 => ?_) (fun hc3 => ?_)
      ·(try simp only [Bool.and_eq_true, Bool.or_eq_true, Bool.or_eq_false_iff, Bool.not_eq_true', Bool.not_eq_false', xH, xI, Bool.and_eq_false_imp, beq_iff_eq, beq_eq_false_iff_ne, ne_eq] at hc3)
       refine yK (yC (yD (yI (yD (yD (yA rfl ?_))))))
       refine yF ?_
       refine yE (yB (yC (yI ?_)))
       refine xJ (fun sl L (a : Nat) => ⟨setAll (setBad sl [0, 1, 2, 7, 9, 10, 18, 19, 20, 21, 22, 23, 24, 25, 26, 27, 28, 29, 30, 31, 32, 33, 34, 35, 36, 37, 38, 39, 40, 41, 42, 43, 44, 45, 46, 47, 48, 49, 50, 51, 52, 53, 54, 55, 56, 57, 58, 59, 60, 61, 62, 63, 64, 67, 68, 69, 70, 71, 72, 73, 74, 75, 76, 77, 78, 79]) [(13, .t (num a))], Go.Ot.look (vJ (.r 14 0 0) (xZ 219 (cls w32 (hJ (mE (sL key nonce c 3) n) a))) L)⟩) (fun a => a ≤ 4) (fun a => 4 - a) (0) (wF ?_) ?_ ?_
       ·refine yT ?_ ?_ ?_ <;> simp [-List.map_set, -List.map_replicate, -List.reduceReplicate, -List.map_map, -List.map_drop, -List.map_take, hJ]
       ·(first | omega | simp)
       ·intro a ha
        refine vL ?_
        refine yD (yD (yA rfl ?_))
        iterate 2 refine yF ?_
        refine yE (yB (yC ?_))
        refine vM (fun hc4 => ?_) (fun hc4 => ?_)
        ·(try simp only [Bool.and_eq_true, Bool.or_eq_true, Bool.or_eq_false_iff, Bool.not_eq_true', Bool.not_eq_false', xH, xI, Bool.and_eq_false_imp, beq_iff_eq, beq_eq_false_iff_ne, ne_eq] at hc4)
         refine yK (yC (yD (yI (yA rfl ?_))))
         iterate 8 refine yF ?_
         refine wD [.r 14 0 0] [] [] false (bE Γ (hJ (mE (sL key nonce c 3) n) a) (a) (4 + a) (8 + a) (12 + a) (by simp [pN, pL, mD, sU]) (by omega) (by omega) (by omega) (by omega)) ?_
         refine yE (yB (yS (yC (yA rfl ?_))))
         iterate 3 refine yF ?_
         refine yE (yB ?_)
         refine xF (a + 1) (wF ?_) ?_ ?_
         ·refine yT ?_ ?_ ?_ <;> simp [-List.map_set, -List.map_replicate, -List.reduceReplicate, -List.map_map, -List.map_drop, -List.map_take, hJ]
         ·(first | omega | (simp_all <;> omega))
         ·(first | omega | (simp only []; omega))
        ·(try simp only [Bool.and_eq_true, Bool.or_eq_true, Bool.or_eq_false_iff, Bool.not_eq_true', Bool.not_eq_false', xH, xI, Bool.and_eq_false_imp, beq_iff_eq, beq_eq_false_iff_ne, ne_eq] at hc4)
         refine xQ (yM (yN (yL (yC (yD (yA rfl ?_))))))
         refine yF ?_
         refine yE (yB (yC (yI ?_)))
         obtain rfl : a = 4 := by omega
         refine xJ (fun sl L (b : Nat) => ⟨setAll (setBad sl [0, 1, 2, 7, 9, 10, 18, 19, 20, 21, 22, 23, 24, 25, 26, 27, 28, 29, 30, 31, 32, 33, 34, 35, 36, 37, 38, 39, 40, 41, 42, 43, 44, 45, 46, 47, 48, 49, 50, 51, 52, 53, 54, 55, 56, 57, 58, 59, 60, 61, 62, 63, 64, 67, 68, 69, 70, 71, 72, 73, 74, 75, 76, 77, 78, 79, 80, 81, 82, 83, 84, 85, 86, 87, 88, 89, 90, 91, 92, 93, 94, 95, 96, 97, 98]) [(14, .t (num b))], Go.Ot.look (vJ (.r 14 0 0) (xZ 219 (cls w32 (dJ (hJ (mE (sL key nonce c 3) n) 4) b))) L)⟩) (fun b => b ≤ 4) (fun b => 4 - b) (0) (wF ?_) ?_ ?_
         ·refine yT ?_ ?_ ?_ <;> simp [-List.map_set, -List.map_replicate, -List.reduceReplicate, -List.map_map, -List.map_drop, -List.map_take, dJ]
         ·(first | omega | simp)
         ·intro b hb
          refine vL ?_
          refine yD (yD (yA rfl ?_))
          iterate 2 refine yF ?_
          refine yE (yB (yC ?_))
          refine vM (fun hc5 => ?_) (fun hc5 => ?_)
          ·(try simp only [Bool.and_eq_true, Bool.or_eq_true, Bool.or_eq_false_iff, Bool.not_eq_true', Bool.not_eq_false', xH, xI, Bool.and_eq_false_imp, beq_iff_eq, beq_eq_false_iff_ne, ne_eq] at hc5)
           refine yK (yC (yD (yI (yA rfl ?_))))
           iterate 14 refine yF ?_
           refine wD [.r 14 0 0] [] [] false (bE Γ (dJ (hJ (mE (sL key nonce c 3) n) 4) b) (b) (4 + (b + 1) % 4) (8 + (b + 2) % 4) (12 + (b + 3) % 4) (by simp [pN, pL, mD, sU]) (by omega) (by omega) (by omega) (by omega)) ?_
           refine yE (yB (yS (yC (yA rfl ?_))))
           iterate 3 refine yF ?_
           refine yE (yB ?_)
           refine xF (b + 1) (wF ?_) ?_ ?_
           ·refine yT ?_ ?_ ?_ <;> simp [-List.map_set, -List.map_replicate, -List.reduceReplicate, -List.map_map, -List.map_drop, -List.map_take, dJ]
           ·(first | omega | (simp_all <;> omega))
           ·(first | omega | (simp only []; omega))
          ·(try simp only [Bool.and_eq_true, Bool.or_eq_true, Bool.or_eq_false_iff, Bool.not_eq_true', Bool.not_eq_false', xH, xI, Bool.and_eq_false_imp, beq_iff_eq, beq_eq_false_iff_ne, ne_eq] at hc5)
           refine xQ (yM (yN (yL (yS (yC (yA rfl ?_))))))
           iterate 3 refine yF ?_
           refine yE (yB ?_)
           obtain rfl : b = 4 := by omega
           refine xF (n + 1) (wF ?_) ?_ ?_
           ·refine yT ?_ ?_ ?_ <;> simp [-List.map_set, -List.map_replicate, -List.reduceReplicate, -List.map_map, -List.map_drop, -List.map_take, mE]
           ·(first | omega | (simp_all <;> omega))
           ·(first | omega | (simp only []; omega))
      ·(try simp only [Bool.and_eq_true, Bool.or_eq_true, Bool.or_eq_false_iff, Bool.not_eq_true', Bool.not_eq_false', xH, xI, Bool.and_eq_false_imp, beq_iff_eq, beq_eq_false_iff_ne, ne_eq] at hc3)
       refine xQ (yM (yN (yL (yC (yD (yA rfl ?_))))))
       refine yF ?_
       refine yE (yB (yC (yD (yD (yA rfl ?_)))))
       refine yF ?_
       refine yE (yB (yC (yI ?_)))
       obtain rfl : n = 10 := by omega
       refine xJ (fun sl L (p : Nat) => ⟨setAll (setBad sl [0, 1, 2, 7, 9, 10, 12, 13, 14, 17, 18, 19, 20, 21, 22, 23, 24, 25, 26, 27, 28, 29, 30, 31, 32, 33, 34, 35, 36, 37, 38, 39, 40, 41, 42, 43, 44, 45, 46, 47, 48, 49, 50, 51, 52, 53, 54, 55, 56, 57, 58, 59, 60, 61, 62, 63, 64, 65, 66, 67, 68, 69, 70, 71, 72, 73, 74, 75, 76, 77, 78, 79, 80, 81, 82, 83, 84, 85, 86, 87, 88, 89, 90, 91, 92, 93, 94, 95, 96, 97, 98, 99, 100, 101, 102, 103, 104, 105, 106, 107, 108, 109, 110, 111, 112, 113, 114, 115, 116, 117, 118, 119, 120, 121, 122, 123, 124]) [(15, .msl (.n 15) 0 (4 * p) 1), (16, .t (num p))], Go.Ot.look (vJ (.n 15) (wE 5 w8 (yG5 (sL key nonce c 3) (mE (sL key nonce c 3) 10) p)) L)⟩) (fun p => p ≤ 16) (fun p => 16 - p) (0) (wF ?_) ?_ ?_
       ·refine wQ [(.r 4 0 0, .r 4 0 0), (.r 14 0 0, .r 14 0 0)] ?_ ?_ ?_ <;> simp [-List.map_set, -List.map_replicate, -List.reduceReplicate, -List.map_map, -List.map_drop, -List.map_take, yG5]
       ·(first | omega | simp)
       ·intro p hp
        have hcm := UInt32.add_comm ((mE (sL key nonce c 3) 10).getD p 0) ((sL key nonce c 3).getD p 0)
        refine vL ?_
        refine yD (yD (yA rfl ?_))
        iterate 2 refine yF ?_
        refine yE (yB (yC ?_))
        refine vM (fun hc6 => ?_) (fun hc6 => ?_)
        ·(try simp only [Bool.and_eq_true, Bool.or_eq_true, Bool.or_eq_false_iff, Bool.not_eq_true', Bool.not_eq_false', xH, xI, Bool.and_eq_false_imp, beq_iff_eq, beq_eq_false_iff_ne, ne_eq] at hc6)
         refine yK (yC (yD (yI (yD (yA rfl ?_)))))
         iterate 8 refine yW ?_
         rw [hcm]
         refine yW ?_
         refine yE (xP (by kernel_rfl) (yC (yA rfl ?_)))
         iterate 15 refine yF ?_
         refine yE (yB (yS (yC (yA rfl ?_))))
         iterate 3 refine yF ?_
         refine yE (yB ?_)
         refine xF (p + 1) (wF ?_) ?_ ?_
         ·refine yT ?_ ?_ ?_ <;> simp [-List.map_set, -List.map_replicate, -List.reduceReplicate, -List.map_map, -List.map_drop, -List.map_take, yG5, yGw, Nat.mul_add]
         ·(first | omega | (simp_all <;> omega))
         ·(first | omega | (simp only []; omega))
        ·(try simp only [Bool.and_eq_true, Bool.or_eq_true, Bool.or_eq_false_iff, Bool.not_eq_true', Bool.not_eq_false', xH, xI, Bool.and_eq_false_imp, beq_iff_eq, beq_eq_false_iff_ne, ne_eq] at hc6)
         refine xQ (yM (yN (yL (yC (yD (yA rfl ?_))))))
         obtain rfl : p = 16 := by omega
         refine yF ?_
         first | refine sX ?_ | refine uN ?_
         refine yF ?_
         refine yE (yB (yC (yP ?_)))
         refine ⟨.inr rfl, yQ [] (by rw [results153]) ?_ ?_ ?_⟩ <;> simp [chB]
end Go.Proofs.Tryz.Cy

namespace Go.Proofs.Tryz.Cy
open Go Go.Ot
attribute [local simp] num bol txt w8 w16 w32 w64 lst cls wE xZ List.take_of_length_le
attribute [local irreducible] wpK wpS uI wH wW wM vC xB Le chB qT yAN chF chX
theorem yAl (Γ : Gl) (key nonce : List UInt8) (c : Nat) (b : List UInt8) (hk : key.length = 32) (hn : nonce.length = 12) (hb0 : 0 < b.length) (hb1 : b.length ≤ 100000000) (hc : c + (b.length + 63) / 64 ≤ 4294967296) : Go.Ot.Good Γ prog 120 [.t (txt key), .t (txt nonce), .t (num c), .t (txt b)] [] (.t (txt (chX key nonce c b))) [] [] := by
 have hne : (chB key nonce c == []) = false := by have := yAJ key nonce c; cases h : chB key nonce c with | nil => rw [h] at this; simp at this | cons x l => rfl
 refine yR F.mix func120 (by rfl) ntmps120 ?_
 refine yD (yA rfl ?_)
 refine yF ?_
 refine yE (yB (yC (yD (yD (yA rfl ?_)))))
 iterate 4 refine yF ?_
 iterate 3 refine yX ?_
 refine wT [] false (mH Γ key nonce c hk hn (by omega)) ?_
 refine yX (hs := by (simp only [push_cast, hne] <;> rfl)) ?_
 iterate 2 refine yF ?_
 iterate 7 refine yX ?_
 refine yF ?_
 refine yE (yB (yC (yJ (yK (yC (yD (yA rfl ?_)))))))
 iterate 3 refine yF ?_
 refine yE (yB (yC (yD (yD (yA rfl ?_)))))
 refine yF ?_
 refine yE (yB (yC (yI ?_)))
 refine xJ (fun sl L (n : Nat) => ⟨setAll (setBad sl [3, 11, 12, 13, 14, 15, 16, 17, 18, 19, 20, 21, 22, 23, 24, 25, 26, 27, 28, 29, 30, 31, 32, 33, 34, 35, 36, 37, 38, 39, 40, 41, 42, 43, 44, 45, 46, 47, 48, 49, 50, 51, 52, 53, 54, 55, 56, 57, 58, 59, 60, 61, 62, 63, 64, 65, 66, 67, 68, 69, 70]) [(10, .t (num (64 * (n : Int))))], Go.Ot.look (vJ (.r 3 1 0) (wE 5 w8 (qT (yAN (chF key nonce c) b (min (64 * n) b.length)) b)) L)⟩) (fun n => n ≤ (b.length + 63) / 64) (fun n => (b.length + 63) / 64 - n) (0) (wF ?_) ?_ ?_
 ·refine yT ?_ ?_ ?_ <;> simp [-List.map_set, -List.map_replicate, -List.reduceReplicate, -List.map_map, -List.map_drop, -List.map_take, yAN, yEa] <;> (try omega)
 ·(first | omega | simp)
 ·intro n hnm
  have hfl0 : (qT (yAN (chF key nonce c) b (min (64 * n) b.length)) b).length = b.length := by rw [aD (by simp [tF]; omega)]
  refine vL ?_
  refine yD (yD (yA rfl ?_))
  iterate 4 refine yF ?_
  refine yE (yB (yC ?_))
  refine vM (fun hc1 => ?_) (fun hc1 => ?_)
  ·(try simp only [Bool.and_eq_true, Bool.or_eq_true, Bool.or_eq_false_iff, Bool.not_eq_true', Bool.not_eq_false', xH, xI, Bool.and_eq_false_imp, beq_iff_eq, beq_eq_false_iff_ne, ne_eq] at hc1)
   refine yK (yC (yD (yI (yD (yA rfl ?_)))))
   iterate 6 refine yF ?_
   refine yU [] false (mH Γ key nonce (c + n) hk hn (by omega)) ?_
   refine yF ?_
   refine yE (yB (yC (yD (yA rfl ?_))))
   iterate 2 refine yF ?_
   refine yE (yB (yC (yI ?_)))
   refine xJ (fun sl L (i : Nat) => ⟨setAll (setBad sl [3, 13, 14, 15, 16, 17, 18, 19, 20, 21, 22, 23, 24, 25, 26, 27, 28, 29, 30, 31, 32, 33, 34, 35, 36, 37, 40, 41, 42, 43, 44, 45, 46, 47, 48, 49, 50, 51, 52, 53, 54, 55, 56, 57, 58, 59, 60, 61, 62, 63, 64, 65, 66, 67, 68, 69, 70]) [(12, .t (num (64 * (n : Int) + (i : Int))))], Go.Ot.look (vJ (.r 3 1 0) (wE 5 w8 (qT (yAN (chF key nonce c) b (64 * n + i)) b)) L)⟩) (fun i => i ≤ min 64 (b.length - 64 * n)) (fun i => 64 - i) (0) (wF ?_) ?_ ?_
   ·refine yT ?_ ?_ ?_ <;> simp [-List.map_set, -List.map_replicate, -List.reduceReplicate, -List.map_map, -List.map_drop, -List.map_take, show min (64 * n) b.length = 64 * n from by omega]
   ·(first | omega | simp)
   ·intro i hi
    have hx := yAJ key nonce (c + n)
    have hfl : (qT (yAN (chF key nonce c) b (64 * n + i)) b).length = b.length := by rw [aD (by simp [tF]; omega)]
    refine vL ?_
    refine yD (yD (yA rfl ?_))
    iterate 5 refine yF ?_
    first | refine yX ?_ | refine wG ?_ | refine uO ?_
    first | refine yX ?_ | refine wG ?_ | refine uO ?_
    first | refine yX ?_ | refine wG ?_ | refine uO ?_
    first | refine yX ?_ | refine wG ?_ | refine uO ?_
    refine yF ?_
    refine yE (yB (yC ?_))
    refine vM (fun hc2 => ?_) (fun hc2 => ?_)
    ·(try simp only [Bool.and_eq_true, Bool.or_eq_true, Bool.or_eq_false_iff, Bool.not_eq_true', Bool.not_eq_false', xH, xI, Bool.and_eq_false_imp, beq_iff_eq, beq_eq_false_iff_ne, ne_eq] at hc2)
     refine yK (yC (yD (yI (yA rfl ?_))))
     iterate 12 refine yW ?_
     refine yE (xP (by kernel_rfl) (yS (yC (yA rfl ?_))))
     iterate 3 refine yF ?_
     refine yE (yB ?_)
     have e3 : ((64 : Int) * (n : Int) + (i : Int) - 64 * (n : Int)).toNat = i := by omega
     have e4 := yEb (a := yAN (chF key nonce c) b (64 * n + i)) (b := b) (i := 64 * n + i) (tF _ _ _).symm
     have e1 : ((64 : Int) * (n : Int) + (i : Int)).toNat = 64 * n + i := by omega
     have e2 := chF_at key nonce c n i (by omega)
     have hset := fun x : UInt8 => yF9 (a := yAN (chF key nonce c) b (64 * n + i)) (b := b) (i := 64 * n + i) (tF _ _ _).symm (by simp [tF]; omega) x
     simp only [List.getD_eq_getElem?_getD] at e2
     refine xF (i + 1) (wF ?_) ?_ ?_
     ·refine yT ?_ ?_ ?_ <;> simp [-List.map_set, -List.map_replicate, -List.reduceReplicate, -List.map_map, -List.map_drop, -List.map_take, e1, e2, e3, e4, hset, yAN, Int.add_assoc, show 64 * n + (i + 1) = (64 * n + i) + 1 from rfl]
     ·(first | omega | (simp_all <;> omega))
     ·(first | omega | (simp only []; omega))
    ·(try simp only [Bool.and_eq_true, Bool.or_eq_true, Bool.or_eq_false_iff, Bool.not_eq_true', Bool.not_eq_false', xH, xI, Bool.and_eq_false_imp, beq_iff_eq, beq_eq_false_iff_ne, ne_eq] at hc2)
     refine xQ (yM (yN (yL (yS (yC (yA rfl ?_))))))
     iterate 3 refine yF ?_
     refine yE (yB ?_)
     obtain rfl : i = min 64 (b.length - 64 * n) := by omega
     refine xF (n + 1) (wF ?_) ?_ ?_
     ·refine yT ?_ ?_ ?_ <;> simp [-List.map_set, -List.map_replicate, -List.reduceReplicate, -List.map_map, -List.map_drop, -List.map_take, Int.mul_add, show 64 * n + min 64 (b.length - 64 * n) = min (64 * (n + 1)) b.length from by omega] <;> (try omega)
     ·(first | omega | (simp_all <;> omega))
     ·(first | omega | (simp only []; omega))
  ·(try simp only [Bool.and_eq_true, Bool.or_eq_true, Bool.or_eq_false_iff, Bool.not_eq_true', Bool.not_eq_false', xH, xI, Bool.and_eq_false_imp, beq_iff_eq, beq_eq_false_iff_ne, ne_eq] at hc1)
   refine xQ (yM (yN (yL (yC (yD (yA rfl ?_))))))
   rw [show min (64 * n) b.length = b.length from by omega, yCn (by simp [tF]), ← yIW]
   refine yF ?_
   first | refine sX ?_ | refine uN ?_
   refine yF ?_
   refine yE (yB (yC (yP ?_)))
   refine ⟨.inr rfl, yQ [] (by rw [results120]) ?_ ?_ ?_⟩ <;> simp [yAI]
end Go.Proofs.Tryz.Cy

namespace Go.Proofs.Tryz.Cy
open Go Go.Ot
def yHa (key nonce b : List UInt8) : List UInt8 := chX (key.take 32) nonce 1 b
def tagB (key nonce ad c : List UInt8) : List UInt8 := (hmacB (key.drop 32) (eight ad.length ++ ad ++ nonce ++ c)).take 16
def sealB (key nonce ad b : List UInt8) : List UInt8 := if key.length = 64 ∧ nonce.length = 12 ∧ b.length ≤ 1048576 then yHa key nonce b ++ tagB key nonce ad (yHa key nonce b) else []
theorem dG (key nonce b : List UInt8) : (yHa key nonce b).length = b.length := yAI _ _ _ _
theorem yAZ (key nonce ad c : List UInt8) : (tagB key nonce ad c).length = 16 := by simp [tagB, hmacB_len]
theorem yFW (key nonce b : List UInt8) : yHa key nonce b = chX (key.take 32) nonce 1 b := rfl
theorem yFV (key nonce : List UInt8) : yHa key nonce [] = [] := rfl
attribute [push_cast] dG yAZ
attribute [local simp] num bol txt w8 w16 w32 w64 lst cls wE xZ List.take_of_length_le
attribute [local irreducible] wpK wpS uI wH wW wM vC xB Le wY tO lF qZ dY chunks takeB aN yAs sha uG qD aA hmacB keyOf chX yHa tagB eight
theorem yAm (Γ : Gl) (key nonce ad c : List UInt8) (hk : key.length ≤ 1000) (hk2 : 32 ≤ key.length) (hn : nonce.length ≤ 1000) (ha : ad.length ≤ 1000000) (hc : c.length ≤ 2000000) : Go.Ot.Good Γ prog 121 [.t (txt key), .t (txt nonce), .t (txt ad), .t (txt c)] [] (.t (txt (tagB key nonce ad c))) [] [] := by
 refine yR F.mix func121 (by rfl) ntmps121 ?_
 refine yD (yA rfl ?_)
 refine yF ?_
 refine yE (yB (yC (yD (yA rfl ?_))))
 iterate 4 refine yW ?_
 refine yV [] false (lK Γ ad.length) ?_
 iterate 6 refine yW ?_
 refine yV [] false (refmac_good Γ (key.drop 32) (eight ad.length ++ ad ++ nonce ++ c) (by simp; omega) (by simp [pK]; omega)) ?_
 iterate 2 refine yW ?_
 refine yE (xP (by kernel_rfl) (yC (yP ?_)))
 refine ⟨.inr rfl, yQ [] (by rw [results121]) ?_ ?_ ?_⟩ <;> simp [tagB]
theorem bD (Γ : Gl) (key nonce : List UInt8) (c : Int) : Go.Ot.Good Γ prog 120 [.t (txt key), .t (txt nonce), .t (num c), .t (txt [])] [] (.t (txt [])) [] [] := by
 refine yR F.mix func120 (by rfl) ntmps120 ?_
 refine yD (yA rfl ?_)
 refine yF ?_
 refine yE (yB (yC (yD (yD (yA rfl ?_)))))
 iterate 4 refine yF ?_
 iterate 5 refine wG ?_
 iterate 2 refine yF ?_
 iterate 7 refine wG ?_
 refine yF ?_
 refine yE (yB (yC (xD (yD (yA rfl ?_)))))
 refine yF ?_
 refine yE (yB (yC (yP (yG ?_))))
 refine ⟨.inr rfl, yQ [] (by rw [results120]) ?_ ?_ ?_⟩ <;> simp
theorem bF (Γ : Gl) (key nonce s : List UInt8) (hk : key.length = 64) (hn : nonce.length = 12) (hs : s.length ≤ 1048576) : Go.Ot.Good Γ prog 120 [.t (txt (key.take 32)), .t (txt nonce), .t (num 1), .t (txt s)] [] (.t (txt (yHa key nonce s))) [] [] := by
 rcases s with _ | ⟨x, s⟩
 ·rw [yFV]; exact bD Γ (key.take 32) nonce 1
 ·rw [yFW]; exact yAl Γ (key.take 32) nonce 1 (x :: s) (by simp; omega) hn (by simp) (by omega) (by simp at hs ⊢; omega)
theorem refseal_ok (Γ : Gl) (key nonce ad s : List UInt8) (h1 : key.length = 64) (h2 : nonce.length = 12) (h3 : s.length ≤ 1048576) (ha : ad.length ≤ 1000000) : Go.Ot.Good Γ prog 79 [.t (txt key), .t (txt nonce), .t (txt ad), .t (txt s)] [] (.t (txt (sealB key nonce ad s))) [] [] := by
 refine yR F.mix func79 (by rfl) ntmps79 ?_
 refine yD (yA rfl ?_)
 refine yF ?_
 refine yE (yB (yC (yD (yD (yA rfl ?_)))))
 iterate 4 refine yF ?_
 iterate 3 refine yX ?_
 iterate 2 refine yF ?_
 iterate 3 refine yX ?_
 refine yF ?_
 refine yE (yB (yC (yJ (yK (yC (yD (yA rfl ?_)))))))
 iterate 4 refine yF ?_
 refine yU [] false (bF Γ key nonce s h1 h2 h3) ?_
 refine yF ?_
 refine yE (yB (yC (yD (yA rfl ?_))))
 iterate 5 refine yF ?_
 refine yU [] false (yAm Γ key nonce ad (yHa key nonce s) (by omega) (by omega) (by omega) ha (by rw [dG]; omega)) ?_
 iterate 2 refine yF ?_
 refine yE (yB (yC (yP ?_)))
 refine ⟨.inr rfl, yQ [] (by rw [results79]) ?_ ?_ ?_⟩ <;> simp [sealB, h1, h2, h3]
end Go.Proofs.Tryz.Cy
