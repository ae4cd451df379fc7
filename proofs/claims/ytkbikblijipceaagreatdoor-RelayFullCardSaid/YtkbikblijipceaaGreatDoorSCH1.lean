/- Contracts of this program's functions. -/
import Derived.Test.YtkbikblijipceaaGreatDoorSJ
import Derived.Test.YtkbikblijipceaaGreatDoorOtD
set_option maxHeartbeats 4000000
set_option maxRecDepth 100000
set_option linter.unusedVariables false
set_option linter.unusedSimpArgs false
namespace Go.Proofs.Tryz.Cy
open Go Go.Ot
def aT (key : List UInt8) : List UInt8 := key.take 64 ++ (List.replicate 64 0).drop (key.take 64).length
theorem nA (key : List UInt8) : (aT key).length = 64 := by simp [aT]; omega
def qC (k : List UInt8) (b : UInt8) : Nat → List UInt8
 | 0 => k
 | i + 1 => (qC k b i).set i ((qC k b i).getD i 0 ^^^ b)
theorem tO (k : List UInt8) (b : UInt8) : ∀ i, (qC k b i).length = k.length
 | 0 => rfl
 | i + 1 => by simp [qC, tO k b i]
def keyOf (key : List UInt8) : List UInt8 := if 64 < key.length then sha key else key
def hmacB (key s : List UInt8) : List UInt8 := sha (qC (aT (keyOf key)) 92 64 ++ sha (qC (aT (keyOf key)) 54 64 ++ s))
theorem hmacB_len (key s : List UInt8) : (hmacB key s).length = 32 := nP _
attribute [push_cast] nA tO nP hmacB_len
theorem yEc {key : List UInt8} (h : 64 < key.length) : keyOf key = sha key := if_pos h
theorem yAQ {key : List UInt8} (h : ¬ 64 < key.length) : keyOf key = key := if_neg h
def hk (H : List UInt8 → List UInt8 → List UInt8) (key info : List UInt8) : Nat → List UInt8
 | 0 => []
 | k + 1 => H key (hk H key info k ++ info ++ [UInt8.ofNat (k + 1)])
def dT (H : List UInt8 → List UInt8 → List UInt8) (key info : List UInt8) : Nat → List UInt8
 | 0 => []
 | k + 1 => dT H key info k ++ hk H key info (k + 1)
theorem yEl {H : List UInt8 → List UInt8 → List UInt8} (hH : ∀ k s, (H k s).length = 32) (key info : List UInt8) (k : Nat) : (hk H key info k).length ≤ 32 ∧ (0 < k → (hk H key info k).length = 32) := by
 cases k with
 | zero => simp [hk]
 | succ k => simp [hk, hH]
theorem mU {H : List UInt8 → List UInt8 → List UInt8} (hH : ∀ k s, (H k s).length = 32) (key info : List UInt8) (k : Nat) : (dT H key info k).length = 32 * k := by
 induction k with
 | zero => rfl
 | succ k ih => simp [dT, ih, (yEl hH key info (k + 1)).2]; omega
def adr (m : Nm) : Nat → D
 | 0 => .t (.v (.pointer none))
 | _ + 1 => .ptr m 0
@[push_cast] theorem adr_0 (m : Nm) : adr m 0 = .t (.v (.pointer none)) := rfl
@[push_cast] theorem adr_1 (m : Nm) (k : Nat) : adr m (k + 1) = .ptr m 0 := rfl
def derB (H : List UInt8 → List UInt8 → List UInt8) (a b c : List UInt8) (n : Nat) : List UInt8 := (dT H (H a b) c ((n + 31) / 32)).take n
end Go.Proofs.Tryz.Cy

namespace Go.Proofs.Tryz.Cy
open Go Go.Ot
attribute [local simp] num bol txt w8 w16 w32 w64 lst cls xZ xR List.take_of_length_le
attribute [local irreducible] wpK wpS uE wH wV wN wZ xD Le wX tQ lI pC cN chunks takeB yAf yAM sha uH qC aT hmacB keyOf hk dT derB
theorem qR (Γ : Gl) (key : List UInt8) (b : UInt8) (hk : key.length ≤ 1000000000) : Go.Ot.Good Γ prog 154 [.t (txt key), .t (w8 b)] [] (.t (txt (qC (aT key) b 64))) [] [] := by
 refine yR F.mix func154 (by rfl) ntmps154 ?_
 refine yD (yA rfl ?_)
 refine yF ?_
 refine yE (yB (yC (yD (yA rfl ?_))))
 refine yF ?_
 rw [show ([.t (.v (.int .u8 0)), .t (.v (.int .u8 0)), .t (.v (.int .u8 0)), .t (.v (.int .u8 0)), .t (.v (.int .u8 0)), .t (.v (.int .u8 0)), .t (.v (.int .u8 0)), .t (.v (.int .u8 0)), .t (.v (.int .u8 0)), .t (.v (.int .u8 0)), .t (.v (.int .u8 0)), .t (.v (.int .u8 0)), .t (.v (.int .u8 0)), .t (.v (.int .u8 0)), .t (.v (.int .u8 0)), .t (.v (.int .u8 0)), .t (.v (.int .u8 0)), .t (.v (.int .u8 0)), .t (.v (.int .u8 0)), .t (.v (.int .u8 0)), .t (.v (.int .u8 0)), .t (.v (.int .u8 0)), .t (.v (.int .u8 0)), .t (.v (.int .u8 0)), .t (.v (.int .u8 0)), .t (.v (.int .u8 0)), .t (.v (.int .u8 0)), .t (.v (.int .u8 0)), .t (.v (.int .u8 0)), .t (.v (.int .u8 0)), .t (.v (.int .u8 0)), .t (.v (.int .u8 0)), .t (.v (.int .u8 0)), .t (.v (.int .u8 0)), .t (.v (.int .u8 0)), .t (.v (.int .u8 0)), .t (.v (.int .u8 0)), .t (.v (.int .u8 0)), .t (.v (.int .u8 0)), .t (.v (.int .u8 0)), .t (.v (.int .u8 0)), .t (.v (.int .u8 0)), .t (.v (.int .u8 0)), .t (.v (.int .u8 0)), .t (.v (.int .u8 0)), .t (.v (.int .u8 0)), .t (.v (.int .u8 0)), .t (.v (.int .u8 0)), .t (.v (.int .u8 0)), .t (.v (.int .u8 0)), .t (.v (.int .u8 0)), .t (.v (.int .u8 0)), .t (.v (.int .u8 0)), .t (.v (.int .u8 0)), .t (.v (.int .u8 0)), .t (.v (.int .u8 0)), .t (.v (.int .u8 0)), .t (.v (.int .u8 0)), .t (.v (.int .u8 0)), .t (.v (.int .u8 0)), .t (.v (.int .u8 0)), .t (.v (.int .u8 0)), .t (.v (.int .u8 0)), .t (.v (.int .u8 0))] : List D) = ((List.replicate 64 (0 : UInt8)).map w8).map D.t from rfl]
 refine yF ?_
 refine yE (yB (yC (yD (yA rfl ?_))))
 iterate 2 refine yF ?_
 refine a_copy ?_
 refine yE (yB (yC (yD (yD (yA rfl ?_)))))
 refine yF ?_
 refine yE (yB (yC (yH ?_)))
 refine xN (fun sl L (i : Nat) => ⟨setAll (setBad sl [0, 7, 8, 9, 10, 11, 12, 13, 14, 15, 16, 17, 18, 19, 20, 21]) [(6, .t (num i))], Go.Ot.look (vD (.r 1 0 0) (xZ 5 w8 (qC (aT key) b i)) L)⟩) (fun i => i ≤ 64) (fun i => 64 - i) (0) (wF ?_) ?_ ?_
 ·refine yT ?_ ?_ ?_ <;> simp [-List.map_set, -List.map_replicate, -List.reduceReplicate, -List.map_map, -List.map_drop, -List.map_take, qC, aT]
 ·(first | omega | simp)
 ·intro i hi
  have hl := (tO (aT key) b i).trans (nA key)
  refine vE ?_
  refine yD (yD (yA rfl ?_))
  iterate 2 refine yF ?_
  refine yE (yB (yC ?_))
  refine vL (fun hc0 => ?_) (fun hc0 => ?_)
  ·(try simp only [zB] at hc0)
   refine yL (yC (yD (yH (yA rfl ?_))))
   iterate 8 refine yF ?_
   refine yE (yB (yS (yC (yA rfl ?_))))
   iterate 3 refine yF ?_
   refine yE (yB ?_)
   refine xE (i + 1) (wF ?_) ?_ ?_
   ·refine yT ?_ ?_ ?_ <;> simp [-List.map_set, -List.map_replicate, -List.reduceReplicate, -List.map_map, -List.map_drop, -List.map_take, qC]
   ·(first | omega | (simp_all <;> omega))
   ·(first | omega | (simp only []; omega))
  ·(try simp only [zB] at hc0)
   refine xQ (yM (yN (yK (yC (yD (yA rfl ?_))))))
   obtain rfl : i = 64 := by omega
   refine yF ?_
   first | refine sV ?_ | refine uO ?_
   refine yF ?_
   refine yE (yB (yC (yO ?_)))
   refine ⟨.inr rfl, yP [] (by rw [results154]) ?_ ?_ ?_⟩ <;> simp
theorem refmac_good (Γ : Gl) (key s : List UInt8) (hk : key.length ≤ 100000000) (hs : s.length ≤ 100000000) : Go.Ot.Good Γ prog 124 [.t (txt key), .t (txt s)] [] (.t (txt (hmacB key s))) [] [] := by
 refine yR F.mix func124 (by rfl) ntmps124 ?_
 refine yD (yA rfl ?_)
 refine yF ?_
 refine yE (yB (yC (yD (yD (yA rfl ?_)))))
 iterate 3 refine yF ?_
 refine yE (yB (yC ?_))
 refine vL (fun hc0 => ?_) (fun hc0 => ?_)
 ·(try simp only [zB] at hc0)
  have hk2 : keyOf key = sha key := yEc (by omega)
  refine yA rfl ?_
  refine yF ?_
  refine yU [] false (pY Γ key (by omega)) ?_
  refine yF ?_
  refine yE (yB (yC (yD (yA rfl ?_))))
  refine yF ?_
  refine yU [] false (qR Γ (sha key) 92 (by rw [nP]; omega)) ?_
  refine yF ?_
  refine yU [] false (qR Γ (sha key) 54 (by rw [nP]; omega)) ?_
  iterate 2 refine yF ?_
  refine yU [] false (pY Γ (qC (aT (sha key)) 54 64 ++ s) (by rw [List.length_append, tO, nA]; omega)) ?_
  refine yF ?_
  refine yU [] false (pY Γ (qC (aT (sha key)) 92 64 ++ sha (qC (aT (sha key)) 54 64 ++ s)) (by rw [List.length_append, tO, nA, nP]; omega)) ?_
  refine yF ?_
  refine yE (yB (yC (yO ?_)))
  refine ⟨.inr rfl, yP [] (by rw [results124]) ?_ ?_ ?_⟩ <;> simp [hmacB, hk2]
 ·(try simp only [zB] at hc0)
  have hk2 : keyOf key = key := yAQ (by omega)
  refine yL (yC (yD (yA rfl ?_)))
  refine yF ?_
  refine yU [] false (qR Γ (key) 92 (by omega)) ?_
  refine yF ?_
  refine yU [] false (qR Γ (key) 54 (by omega)) ?_
  iterate 2 refine yF ?_
  refine yU [] false (pY Γ (qC (aT (key)) 54 64 ++ s) (by rw [List.length_append, tO, nA]; omega)) ?_
  refine yF ?_
  refine yU [] false (pY Γ (qC (aT (key)) 92 64 ++ sha (qC (aT (key)) 54 64 ++ s)) (by rw [List.length_append, tO, nA, nP]; omega)) ?_
  refine yF ?_
  refine yE (yB (yC (yO ?_)))
  refine ⟨.inr rfl, yP [] (by rw [results124]) ?_ ?_ ?_⟩ <;> simp [hmacB, hk2]
theorem ofInt8 (k : Nat) : UInt8.ofInt ((k : Int) + 1) = UInt8.ofNat (k + 1) := by
 refine UInt8.toNat_inj.1 ?_
 simp only [UInt8.ofInt, UInt8.toNat_ofNat']
 omega
theorem yDz (Γ : Gl) (a b c : List UInt8) (n : Nat) (h1 : n ≤ 8160) (ha : a.length ≤ 1000000) (hb : b.length ≤ 1000000) (hc : c.length ≤ 1000000) (H : List UInt8 → List UInt8 → List UInt8) (hH : ∀ k s, (H k s).length = 32) (hmac : ∀ (key s : List UInt8), key.length ≤ 100000000 → s.length ≤ 100000000 → Go.Ot.Good Γ prog 124 [.t (txt key), .t (txt s)] [] (.t (txt (H key s))) [] []) : Go.Ot.Good Γ prog 122 [.t (txt a), .t (txt b), .t (txt c), .t (num n)] [] (.t (txt (derB H a b c n))) [] [] := by
 refine yR F.mix func122 (by rfl) ntmps122 ?_
 refine yD (yA rfl ?_)
 refine yF ?_
 refine yE (yB (yC (yD (yD (yA rfl ?_)))))
 iterate 3 refine yF ?_
 iterate 2 refine uP ?_
 refine yF ?_
 refine yE (yB (yC ?_))
 refine vL (fun hc0 => ?_) (fun hc0 => ?_)
 ·(try simp only [zB] at hc0)
  (try simp at hc0); omega
 ·(try simp only [zB] at hc0)
  refine yL (yC (yD (yA rfl ?_)))
  iterate 2 refine yF ?_
  refine yU [] false (hmac a b (by omega) (by omega)) ?_
  refine yF ?_
  refine yE (yB (yC (yD (yA rfl ?_))))
  iterate 2 refine yF ?_
  refine yE (yB (yC (yD (yD (yA rfl ?_)))))
  refine yF ?_
  refine yE (yB (yC (yH ?_)))
  refine xN (fun sl L (k : Nat) => ⟨setAll (setBad sl [0, 1, 13, 14, 15, 16, 17, 18, 19, 20, 21, 22, 23, 24, 25, 26, 27, 28, 29, 30, 31, 32, 33, 34, 35, 36, 37, 38, 39, 40]) [(10, .t (txt (dT H (H a b) c k))), (11, .t (txt (hk H (H a b) c k))), (12, .t (num (k + 1)))], Go.Ot.look (L)⟩) (fun k => 32 * k < n + 32) (fun k => 256 - k) (0) (wF ?_) ?_ ?_
  ·refine yT ?_ ?_ ?_ <;> simp [hk, dT]
  ·(first | omega | simp)
  ·intro k hk0
   refine vE ?_
   refine yD (yD (yA rfl ?_))
   iterate 4 refine yF ?_
   refine yE (yB (yC ?_))
   refine vL (fun hc1 => ?_) (fun hc1 => ?_)
   ·(try simp only [zB] at hc1)
    refine yL (yC (yD (yH (yD (yA rfl ?_)))))
    have hx := (yEl hH (H a b) c k).1
    iterate 5 refine yF ?_
    refine pQ ?_
    (try rw [ofInt8 k])
    refine yF ?_
    first | refine sV ?_ | refine uO ?_
    refine yF ?_
    refine yU [] false (hmac (H a b) (hk H (H a b) c k ++ c ++ [UInt8.ofNat (k + 1)]) (by rw [hH]; omega) (by have := (yEl hH (H a b) c k).1; simp; omega)) ?_
    refine yF ?_
    refine yE (yB (yC (yA rfl ?_)))
    have hy := mU hH (H a b) c k
    have hy2 := hH (H a b) (hk H (H a b) c k ++ c ++ [UInt8.ofNat (k + 1)])
    iterate 4 refine yF ?_
    refine yE (yB (yS (yC (yA rfl ?_))))
    iterate 3 refine yF ?_
    refine yE (yB ?_)
    refine xE (k + 1) (wF ?_) ?_ ?_
    ·refine yT ?_ ?_ ?_ <;> simp [hk, dT, hH]
    ·(first | omega | (simp only [mU hH] at hc1; omega))
    ·(first | omega | (simp only []; omega))
   ·(try simp only [zB] at hc1)
    have hz : k = (n + 31) / 32 := by simp only [mU hH] at hc1; omega
    refine xQ (yM (yN (yK (yC (yD (yA rfl ?_))))))
    iterate 4 refine yF ?_
    refine yE (yB (yC (yO ?_)))
    refine ⟨.inr rfl, yP [] (by rw [results122]) ?_ ?_ ?_⟩ <;> simp [derB, hz]
end Go.Proofs.Tryz.Cy
