/- Contracts of this program's functions. -/
import Derived.Test.YtkbikblijipceaaGreatDoorSF
set_option maxHeartbeats 4000000
set_option maxRecDepth 100000
set_option linter.unusedVariables false
set_option linter.unusedSimpArgs false
namespace Go.Proofs.Tryz
open Go Go.Ot
attribute [local simp] num bol txt w8 w16 w32 w64 lst cls xZ xR List.take_of_length_le
attribute [local irreducible] wpK wpS uE wH wV wN wZ xD Le
def cN (x : UInt32) (n : Nat) : UInt32 := jN x (32 - n) ||| cX x n
def yHk (x : UInt32) (ns : List Nat) : Nat → UInt32
 | 0 => 0
 | i + 1 => yHk x ns i ^^^ cN x (ns.getD i 0)
def yAz (x : UInt32) (a b c : Nat) : UInt32 := cN x a ^^^ cN x b ^^^ cN x c
def tQ (s : List UInt8) (i : Nat) : Nat → UInt32
 | 0 => 0
 | k + 1 => jN (tQ s i k) 8 ||| (s.getD (4 * i + k) 0).toUInt32
def sig0 (a : UInt32) : UInt32 := cN a 7 ^^^ cN a 18 ^^^ cX a 3
def sig1 (b : UInt32) : UInt32 := cN b 17 ^^^ cN b 19 ^^^ cX b 10
def yF4 (w : List UInt32) (i : Nat) : UInt32 := w.getD (i - 16) 0 + w.getD (i - 7) 0 + sig0 (w.getD (i - 15) 0) + sig1 (w.getD (i - 2) 0)
def wX (s : List UInt8) : Nat → List UInt32
 | 0 => List.replicate 64 0
 | i + 1 => (wX s i).set i (if i < 16 then tQ s i 4 else yF4 (wX s i) i)
theorem uU (s : List UInt8) : ∀ i, (wX s i).length = 64
 | 0 => by simp [wX]
 | i + 1 => by simp [wX, uU s i]
theorem fP (s : List UInt8) : ∀ i j, i ≤ j → (wX s i).getD j 0 = 0
 | 0, j, _ => by
  simp only [wX, List.getD_eq_getElem?_getD, List.getElem?_replicate]
  split <;> rfl
 | i + 1, j, h => by
  have := fP s i j (by omega)
  simp only [wX, List.getD_eq_getElem?_getD] at this ⊢
  rw [List.getElem?_set_ne (by omega)]
  exact this
theorem yBl {α : Type} [Inhabited α] : ∀ (l : List α) (i : Nat), l.set i (l.getD i default) = l
 | [], i => by simp
 | a :: l, 0 => by simp
 | a :: l, i + 1 => by simpa using yBl l i
theorem fQ (s : List UInt8) (i : Nat) : (wX s i).set i 0 = wX s i := by
 have h := yBl (wX s i) i
 have e : (wX s i).getD i default = 0 := fP s i i (Nat.le_refl _)
 rwa [e] at h
def K64 : List UInt32 := [0x428a2f98, 0x71374491, 0xb5c0fbcf, 0xe9b5dba5, 0x3956c25b, 0x59f111f1, 0x923f82a4, 0xab1c5ed5, 0xd807aa98, 0x12835b01, 0x243185be, 0x550c7dc3, 0x72be5d74, 0x80deb1fe, 0x9bdc06a7, 0xc19bf174, 0xe49b69c1, 0xefbe4786, 0x0fc19dc6, 0x240ca1cc, 0x2de92c6f, 0x4a7484aa, 0x5cb0a9dc, 0x76f988da, 0x983e5152, 0xa831c66d, 0xb00327c8, 0xbf597fc7, 0xc6e00bf3, 0xd5a79147, 0x06ca6351, 0x14292967, 0x27b70a85, 0x2e1b2138, 0x4d2c6dfc, 0x53380d13, 0x650a7354, 0x766a0abb, 0x81c2c92e, 0x92722c85, 0xa2bfe8a1, 0xa81a664b, 0xc24b8b70, 0xc76c51a3, 0xd192e819, 0xd6990624, 0xf40e3585, 0x106aa070, 0x19a4c116, 0x1e376c08, 0x2748774c, 0x34b0bcb5, 0x391c0cb3, 0x4ed8aa4a, 0x5b9cca4f, 0x682e6ff3, 0x748f82ee, 0x78a5636f, 0x84c87814, 0x8cc70208, 0x90befffa, 0xa4506ceb, 0xbef9a3f7, 0xc67178f2]
def H0 : List UInt32 := [0x6a09e667, 0xbb67ae85, 0x3c6ef372, 0xa54ff53a, 0x510e527f, 0x9b05688c, 0x1f83d9ab, 0x5be0cd19]
def tt (x : List UInt32) (k w : UInt32) : UInt32 := x.getD 7 0 + yAz (x.getD 4 0) 6 11 25 + (x.getD 4 0 &&& x.getD 5 0 ^^^ ~~~ x.getD 4 0 &&& x.getD 6 0) + k + w
def uu (x : List UInt32) : UInt32 := yAz (x.getD 0 0) 2 13 22 + (x.getD 0 0 &&& x.getD 1 0 ^^^ x.getD 0 0 &&& x.getD 2 0 ^^^ x.getD 1 0 &&& x.getD 2 0)
def rnd (x : List UInt32) (k w : UInt32) : List UInt32 := [tt x k w + uu x, x.getD 0 0, x.getD 1 0, x.getD 2 0, x.getD 3 0 + tt x k w, x.getD 4 0, x.getD 5 0, x.getD 6 0]
def lI (h w : List UInt32) : Nat → List UInt32
 | 0 => h
 | i + 1 => rnd (lI h w i) (K64.getD i 0) (w.getD i 0)
def pC (h x : List UInt32) : Nat → List UInt32
 | 0 => x
 | i + 1 => (pC h x i).set i ((pC h x i).getD i 0 + h.getD i 0)
def takeB (h : List UInt32) (s : List UInt8) : List UInt32 := pC h (lI h (wX s 64) 64) 8
theorem kR (h w : List UInt32) (hh : h.length = 8) : ∀ i, (lI h w i).length = 8
 | 0 => hh
 | i + 1 => rfl
theorem mZ (h x : List UInt32) : ∀ i, (pC h x i).length = x.length
 | 0 => rfl
 | i + 1 => by simp [pC, mZ h x i]
theorem cV (h : List UInt32) (s : List UInt8) (hh : h.length = 8) : (takeB h s).length = 8 := by rw [takeB, mZ, kR _ _ hh]
def yAf (n : UInt64) : Nat → List UInt8
 | 0 => []
 | j + 1 => yAf n j ++ [(sr64 n ((8 : Int) * (7 - (j : Int))).toNat).toUInt8]
theorem kY (n : UInt64) : ∀ j, (yAf n j).length = j
 | 0 => rfl
 | j + 1 => by simp [yAf, kY n j]
def uH (s : List UInt8) : List UInt8 := s ++ [128] ++ List.replicate ((120 - (s.length + 1) % 64) % 64) 0 ++ yAf (UInt64.ofInt s.length * 8) 8
theorem yBy (s : List UInt8) : (uH s).length % 64 = 0 := by
 simp only [uH, List.length_append, List.length_replicate, kY, List.length_cons, List.length_nil]
 omega
def chunks (p : List UInt8) : Nat → List UInt32
 | 0 => H0
 | i + 1 => takeB (chunks p i) ((p.drop (64 * i)).take 64)
theorem nD (p : List UInt8) : ∀ i, (chunks p i).length = 8
 | 0 => rfl
 | i + 1 => cV _ _ (nD p i)
def yAM (h : List UInt32) : Nat → List UInt8
 | 0 => []
 | i + 1 => yAM h i ++ [(cX (h.getD i 0) 24).toUInt8, (cX (h.getD i 0) 16).toUInt8, (cX (h.getD i 0) 8).toUInt8, (h.getD i 0).toUInt8]
theorem dM (h : List UInt32) : ∀ i, (yAM h i).length = 4 * i
 | 0 => rfl
 | i + 1 => by simp [yAM, dM h i]; omega
def sha (s : List UInt8) : List UInt8 := yAM (chunks (uH s) ((uH s).length / 64)) 8
theorem nP (s : List UInt8) : (sha s).length = 32 := dM _ _
theorem yEG {p : List UInt8} {i : Nat} (hp : p.length % 64 = 0) (h : p.drop (64 * i) ≠ []) : 64 * i + 64 ≤ p.length := by
 have : ¬ p.length ≤ 64 * i := fun e => h (List.drop_eq_nil_of_le e)
 omega
theorem yEH {p : List UInt8} {i : Nat} (hp : p.length % 64 = 0) (hi : 64 * i ≤ p.length) (h : p.drop (64 * i) = []) : p.length / 64 = i := by
 have : p.length ≤ 64 * i := by
  have := congrArg List.length h
  simp at this
  omega
 omega
theorem rot_and : ∀ n : Nat, n < 32 → 0 < n → bits .and .u64 (IntKind.u64.wrap (-(n : Int))) 31 = ((32 - n : Nat) : Int) := by decide
theorem set8 {l : List UInt32} (hl : l.length = 8) (a b c d e f g h : UInt32) : (((((((l.set 0 a).set 1 b).set 2 c).set 3 d).set 4 e).set 5 f).set 6 g).set 7 h = [a, b, c, d, e, f, g, h] := by
 match l, hl with
 | [_, _, _, _, _, _, _, _], _ => rfl
theorem K64_len : K64.length = 64 := by decide
theorem H0_len : H0.length = 8 := by decide
def lft (x : UInt32) (n : Nat) : UInt32 := jN x n ||| cX x (32 - n)
theorem qS (x : UInt32) (n : Nat) (h : n ≤ 32) : lft x (32 - n) = cN x n := by simp only [lft, cN]; rw [show 32 - (32 - n) = n from by omega]
attribute [push_cast] uU kR K64_len H0_len mZ kY dM
theorem yFN (x : UInt32) (a b c : Nat) : yHk x [a, b, c] 3 = yAz x a b c := by simp [yHk, yAz, UInt32.zero_xor]
theorem yDv (Γ : Gl) (x : UInt32) (n : Nat) (h0 : 0 < n) (h1 : n < 32) : Go.Ot.Good Γ prog 190 [.t (w32 x), .t (num (-(n : Int)))] [] (.t (w32 (cN x n))) [] [] := by
 refine yR F.mix func190 (by rfl) ntmps190 ?_
 refine yD (yA rfl ?_)
 refine yF ?_
 refine yE (yB (yC (yD (yA rfl ?_))))
 iterate 2 refine yF ?_
 refine yF (hs := by (simp only [push_cast, rot_and n h1 h0] <;> rfl)) ?_
 refine yF ?_
 refine yE (yB (yC (yD (yA rfl ?_))))
 iterate 9 refine yF ?_
 refine yE (yB (yC (yO ?_)))
 refine ⟨.inr rfl, yP [] (by rw [results190]) ?_ ?_ ?_⟩ <;> simp [cN, w32, show ((32 : Int) - (32 - (n : Int))).toNat = n from by omega]
theorem qJ (Γ : Gl) (x : UInt32) (ns : List Nat) (hn : ns.length ≤ 100) (hr : ∀ i, i < ns.length → 0 < ns.getD i 0 ∧ ns.getD i 0 < 32) : Go.Ot.Good Γ prog 184 [.t (w32 x), .t (lst (fun n : Nat => num n) ns)] [] (.t (w32 (yHk x ns ns.length))) [] [] := by
 refine yR F.mix func184 (by rfl) ntmps184 ?_
 refine yD (yA rfl ?_)
 refine yF ?_
 refine yE (yB (yC (yD (yA rfl ?_))))
 refine yF ?_
 refine yE (yB (yC (yD (yD (yA rfl ?_)))))
 iterate 3 refine yF ?_
 refine yE (yB (yC (yH ?_)))
 refine xN (fun sl L (i : Nat) => ⟨setAll (setBad sl [1, 7, 11, 12, 13, 14, 15, 16, 17, 18, 19, 20]) [(5, .t (w32 (yHk x ns i))), (10, .t (num i))], Go.Ot.look (L)⟩) (fun i => i ≤ ns.length) (fun i => ns.length - i) (0) (wF ?_) ?_ ?_
 ·refine yT ?_ ?_ ?_ <;> simp [yHk]
 ·(first | omega | simp)
 ·intro i hi
  refine vE ?_
  refine yD (yA rfl ?_)
  refine yF ?_
  refine yE (yB (yC (yD ?_)))
  refine vL (fun hc0 => ?_) (fun hc0 => ?_)
  ·(try simp only [zB] at hc0)
   refine yL (yC (yD (yH (yD (yA rfl ?_)))))
   iterate 3 refine yF ?_
   refine yE (yB (yC (yA rfl ?_)))
   obtain ⟨hr1, hr2⟩ := hr i (by omega)
   iterate 4 refine yF ?_
   refine yU [] false (yDv Γ x (ns.getD i 0) (hr i (by omega)).1 (hr i (by omega)).2) ?_
   iterate 2 refine yF ?_
   refine yE (yB (yS (yC (yA rfl ?_))))
   iterate 2 refine yF ?_
   refine yE (yB ?_)
   refine xE (i + 1) (wF ?_) ?_ ?_
   ·refine yT ?_ ?_ ?_ <;> simp [yHk, w32, num]
   ·(first | omega | (simp_all <;> omega))
   ·(first | omega | (simp only []; omega))
  ·(try simp only [zB] at hc0)
   refine xQ (yM (yN (yK (yC (yD (yA rfl ?_))))))
   iterate 2 refine yF ?_
   refine yE (yB (yC (yO ?_)))
   refine ⟨.inr rfl, yP [] (by rw [results184]) ?_ ?_ ?_⟩ <;> simp [w32, show i = ns.length from by omega]
end Go.Proofs.Tryz

namespace Go.Proofs.Tryz
open Go Go.Ot
attribute [local simp] num bol txt w8 w16 w32 w64 lst cls xZ xR List.take_of_length_le
attribute [local irreducible] wpK wpS uE wH wV wN wZ xD Le
theorem yCo (Γ : Gl)  : Go.Ot.Good Γ prog 174 [] [] (.agg (cls w32 H0)) [] [] := by
 refine yR F.mix func174 (by rfl) ntmps174 ?_
 refine yD (yA rfl ?_)
 refine yF ?_
 refine yE (yB (yC (yD (yA rfl ?_))))
 iterate 2 refine yF ?_
 refine yE (yB (yC (yO ?_)))
 refine ⟨.inr rfl, yP [] (by rw [results174]) ?_ ?_ ?_⟩ <;> simp [H0]
theorem yCM (Γ : Gl)  : Go.Ot.Good Γ prog 175 [] [] (.agg (cls w32 K64)) [] [] := by
 refine yR F.mix func175 (by rfl) ntmps175 ?_
 refine yD (yA rfl ?_)
 refine yF ?_
 refine yE (yB (yC (yD (yA rfl ?_))))
 have hk := K64_len
 refine yF (r := { val := .agg (cls w32 K64) }) (c := wO prog 247 = true) (hs := by kernel_rfl) ?_
 refine yF ?_
 refine yE (yB (yC (yO ?_)))
 refine ⟨.inr rfl, yP [] (by rw [results175]) ?_ ?_ ?_⟩ <;> simp [-List.map_set, -List.map_replicate, -List.reduceReplicate, -List.map_map, -List.map_drop, -List.map_take, show K64.take 64 = K64 from rfl]
end Go.Proofs.Tryz

namespace Go.Proofs.Tryz
open Go Go.Ot
attribute [local simp] num bol txt w8 w16 w32 w64 lst cls xZ xR List.take_of_length_le
attribute [local irreducible] wpK wpS uE wH wV wN wZ xD Le wX tQ lI pC
theorem yAp (Γ : Gl) (s : List UInt8) (hs : s.length = 64) : Go.Ot.Good Γ prog 183 [.t (txt s)] [] (.agg (cls w32 (wX s 64))) [] [] := by
 refine yR F.mix func183 (by rfl) ntmps183 ?_
 refine yD (yA rfl ?_)
 refine yF ?_
 refine yE (yB (yC (yD (yA rfl ?_))))
 refine yF ?_
 refine yE (yB (yC (yD (yD (yA rfl ?_)))))
 refine yF ?_
 refine yE (yB (yC (yH ?_)))
 refine xN (fun sl L (i : Nat) => ⟨setAll (setBad sl [4, 5, 10, 11, 12, 13, 14, 15, 16, 17, 18, 19, 20, 21, 22, 23, 24, 25, 26, 27, 28, 29, 30]) [(9, .t (num i))], Go.Ot.look (vD (.r 1 0 0) (xR 247 (cls w32 (wX s i))) L)⟩) (fun i => i ≤ 16) (fun i => 16 - i) (0) (wF ?_) ?_ ?_
 ·refine yT ?_ ?_ ?_ <;> simp [wX]
 ·(first | omega | simp)
 ·intro i hi
  have hl := uU s i
  refine vE ?_
  refine yD (yA rfl ?_)
  refine yF ?_
  refine yE (yB (yC (yD ?_)))
  refine vL (fun hc0 => ?_) (fun hc0 => ?_)
  ·(try simp only [zB] at hc0)
   refine yL (yC (yD (yH (yD (yA rfl ?_)))))
   iterate 2 refine yF ?_
   refine yE (yB (yC (yD (yA rfl ?_))))
   refine yF ?_
   refine yE (yB (yC (yH ?_)))
   refine xN (fun sl L (k : Nat) => ⟨setAll (setBad sl [5, 10, 11, 13, 14, 15, 16, 17, 18, 19, 20, 21, 22, 23, 24, 25, 26, 27, 28, 29]) [(12, .t (num k))], Go.Ot.look (vD (.r 1 0 0) (xR 247 (cls w32 ((wX s i).set i (tQ s i k)))) L)⟩) (fun k => k ≤ 4) (fun k => 4 - k) (0) (wF ?_) ?_ ?_
   ·refine yT ?_ ?_ ?_ <;> simp [-List.map_set, -List.map_replicate, -List.reduceReplicate, -List.map_map, -List.map_drop, -List.map_take, tQ, fQ]
   ·(first | omega | simp)
   ·intro k hk
    refine vE ?_
    refine yD (yA rfl ?_)
    refine yF ?_
    refine yE (yB (yC (yD ?_)))
    refine vL (fun hc1 => ?_) (fun hc1 => ?_)
    ·(try simp only [zB] at hc1)
     refine yL (yC (yD (yH (yD (yA rfl ?_)))))
     iterate 2 refine yF ?_
     refine yE (yB (yC (yA rfl ?_)))
     iterate 15 refine yY ?_
     refine yE (xO (by kernel_rfl) (yS (yC (yA rfl ?_))))
     iterate 2 refine yF ?_
     refine yE (yB ?_)
     have e1 : ((4 : Int) * (i : Int) + (k : Int)).toNat = 4 * i + k := by omega
     refine xE (k + 1) (wF ?_) ?_ ?_
     ·refine yT ?_ ?_ ?_ <;> simp [-List.map_set, -List.map_replicate, -List.reduceReplicate, -List.map_map, -List.map_drop, -List.map_take, tQ, fQ, e1]
     ·(first | omega | (simp_all <;> omega))
     ·(first | omega | (simp only []; omega))
    ·(try simp only [zB] at hc1)
     refine xQ (yM (yN (yK (yS (yC (yA rfl ?_))))))
     iterate 2 refine yF ?_
     refine yE (yB ?_)
     obtain rfl : k = 4 := by omega
     refine xE (i + 1) (wF ?_) ?_ ?_
     ·refine yT ?_ ?_ ?_ <;> simp [-List.map_set, -List.map_replicate, -List.reduceReplicate, -List.map_map, -List.map_drop, -List.map_take, wX, show i < 16 from by omega]
     ·(first | omega | (simp_all <;> omega))
     ·(first | omega | (simp only []; omega))
  ·(try simp only [zB] at hc0)
   refine xQ (yM (yN (yK (yC (yD (yD (yA rfl ?_)))))))
   refine yF ?_
   refine yE (yB (yC (yH ?_)))
   obtain rfl : i = 16 := by omega
   refine xN (fun sl L (j : Nat) => ⟨setAll (setBad sl [0, 4, 5, 7, 8, 9, 10, 11, 12, 13, 14, 15, 16, 17, 18, 19, 20, 21, 22, 23, 24, 25, 26, 27, 28, 29, 30, 31, 32, 33, 34, 35, 36, 37, 38, 39, 40, 41, 42, 43, 44, 45, 46, 47, 48, 49, 50, 51, 52, 53, 54, 55, 56, 57, 58, 59, 60, 61, 62, 63, 64, 65, 66, 67]) [(6, .t (num j))], Go.Ot.look (vD (.r 1 0 0) (xR 247 (cls w32 (wX s j))) L)⟩) (fun j => 16 ≤ j ∧ j ≤ 64) (fun j => 64 - j) (16) (wF ?_) ?_ ?_
   ·exact le_sz
   ·(first | omega | simp)
   ·rintro j ⟨hj, hj2⟩
    have hl := uU s j
    refine vE ?_
    refine yD (yD (yA rfl ?_))
    iterate 2 refine yF ?_
    refine yE (yB (yC ?_))
    refine vL (fun hc2 => ?_) (fun hc2 => ?_)
    ·(try simp only [zB] at hc2)
     refine yL (yC (yD (yH (yD (yA rfl ?_)))))
     iterate 10 refine yY ?_
     refine yE (xO (by kernel_rfl) (yC (yA rfl ?_)))
     iterate 12 refine yY ?_
     refine yZ [.r 15 11 0] false (qJ Γ ((wX s j).getD ((j : Int) - 15).toNat 0) [7, 18] (by decide) (by decide)) ?_
     iterate 6 refine yY ?_
     refine yZ [.r 15 18 0] false (qJ Γ ((wX s j).getD ((j : Int) - 2).toNat 0) [17, 19] (by decide) (by decide)) ?_
     iterate 6 refine yY ?_
     refine yE (xO (by kernel_rfl) (yS (yC (yA rfl ?_))))
     iterate 3 refine yF ?_
     refine yE (yB ?_)
     have e15 : ((j : Int) - 15).toNat = j - 15 := by omega
     have e2 : ((j : Int) - 2).toNat = j - 2 := by omega
     have e16 : ((j : Int) - 16).toNat = j - 16 := by omega
     have e7 : ((j : Int) - 7).toNat = j - 7 := by omega
     refine xE (j + 1) (wF ?_) ?_ ?_
     ·refine yT ?_ ?_ ?_ <;> simp [-List.map_set, -List.map_replicate, -List.reduceReplicate, -List.map_map, -List.map_drop, -List.map_take, wX, yF4, sig0, sig1, yHk, e15, e2, e16, e7, show ¬ j < 16 from by omega]
     ·(first | omega | (simp_all <;> omega))
     ·(first | omega | (simp only []; omega))
    ·(try simp only [zB] at hc2)
     refine xQ (yM (yN (yK (yC (yD (yA rfl ?_))))))
     obtain rfl : j = 64 := by omega
     iterate 2 refine yF ?_
     refine yE (yB (yC (yO ?_)))
     refine ⟨.inr rfl, yP [] (by rw [results183]) ?_ ?_ ?_⟩ <;> simp [-List.map_set, -List.map_replicate, -List.reduceReplicate, -List.map_map, -List.map_drop, -List.map_take, uU]
end Go.Proofs.Tryz

namespace Go.Proofs.Tryz
open Go Go.Ot
attribute [local simp] num bol txt w8 w16 w32 w64 lst cls xZ xR List.take_of_length_le
attribute [local irreducible] wpK wpS uE wH wV wN wZ xD Le wX tQ lI pC cN
theorem yDc (Γ : Gl) (h : List UInt32) (s : List UInt8) (hh : h.length = 8) (hs : s.length = 64) : Go.Ot.Good Γ prog 176 [.agg (cls w32 h), .agg (cls w32 K64), .t (txt s)] [] (.agg (cls w32 (takeB h s))) [] [] := by
 refine yR F.mix func176 (by rfl) ntmps176 ?_
 refine yD (yA rfl ?_)
 iterate 3 refine yF ?_
 refine yE (yB (yC (yD (yA rfl ?_))))
 iterate 3 refine yF ?_
 refine yE (yB (yC (yD (yD (yA rfl ?_)))))
 refine yF ?_
 refine yU [] false (yAp Γ s hs) ?_
 refine yF ?_
 refine yE (yB (yC (yH ?_)))
 refine xN (fun sl L (i : Nat) => ⟨setAll (setBad sl [0, 1, 2, 8, 9, 10, 11, 12, 13, 14, 15, 16, 17, 19, 20, 23, 24, 25, 26, 27, 28, 29, 30, 31, 32, 33, 34, 35, 36, 37, 38, 39, 40, 41, 42, 43, 44, 45, 46, 47, 48, 49, 50, 51, 52, 53, 54, 55, 56, 57, 58, 59, 60, 61, 62, 63, 64, 65, 66, 67, 68, 69, 70, 71, 72, 73, 74, 75, 76, 77, 78, 79, 80, 81, 82, 83, 84, 85, 86, 87, 88]) [(22, .t (num i))], Go.Ot.look (vD (.r 1 1 0) (xR 245 (cls w32 (lI h (wX s 64) i))) L)⟩) (fun i => i ≤ 64) (fun i => 64 - i) (0) (wF ?_) ?_ ?_
 ·refine yT ?_ ?_ ?_ <;> simp [-List.map_set, -List.map_replicate, -List.reduceReplicate, -List.map_map, -List.map_drop, -List.map_take, lI]
 ·(first | omega | simp)
 ·intro i hi
  have hr := kR h (wX s 64) hh i
  have hk := K64_len
  have hl := uU s 64
  refine vE ?_
  refine yD (yA rfl ?_)
  refine yF ?_
  refine yE (yB (yC (yD ?_)))
  refine vL (fun hc0 => ?_) (fun hc0 => ?_)
  ·(try simp only [zB] at hc0)
   refine yL (yC (yD (yH (yD (yA rfl ?_)))))
   iterate 4 refine yF ?_
   refine yE (yB (yC (yD (yA rfl ?_))))
   iterate 18 refine yY ?_
   refine yE (xO (by kernel_rfl) (yC (yD (yA rfl ?_))))
   iterate 4 refine yY ?_
   refine yZ [.r 6 3 0] false (qJ Γ ((lI h (wX s 64) i).getD 4 0) [6, 11, 25] (by decide) (by decide)) ?_
   iterate 17 refine yY ?_
   refine yE (xO (by kernel_rfl) (yC (yD (yA rfl ?_))))
   iterate 2 refine yF ?_
   refine yU [.r 7 1 0] false (qJ Γ ((lI h (wX s 64) i).getD 0 0) [2, 13, 22] (by decide) (by decide)) ?_
   iterate 13 refine yF ?_
   refine yE (yB (yC (yA rfl ?_)))
   iterate 15 refine yF ?_
   refine yE (yB (yS (yC (yA rfl ?_))))
   iterate 2 refine yF ?_
   refine yE (yB ?_)
   refine xE (i + 1) (wF ?_) ?_ ?_
   ·refine yT ?_ ?_ ?_ <;> simp [-List.map_set, -List.map_replicate, -List.reduceReplicate, -List.map_map, -List.map_drop, -List.map_take, lI, rnd, set8 hr, yFN, tt, uu]
   ·(first | omega | (simp_all <;> omega))
   ·(first | omega | (simp only []; omega))
  ·(try simp only [zB] at hc0)
   refine xQ (yM (yN (yK (yC (yD (yD (yA rfl ?_)))))))
   refine yF ?_
   refine yE (yB (yC (yH ?_)))
   obtain rfl : i = 64 := by omega
   refine xN (fun sl L (j : Nat) => ⟨setAll (setBad sl [0, 1, 2, 4, 8, 9, 10, 11, 12, 13, 14, 15, 16, 17, 18, 19, 20, 21, 22, 23, 24, 25, 26, 27, 28, 29, 30, 31, 32, 33, 34, 35, 36, 37, 38, 39, 40, 41, 42, 43, 44, 45, 46, 47, 48, 49, 50, 51, 52, 53, 54, 55, 56, 57, 58, 59, 60, 61, 62, 63, 64, 65, 66, 67, 68, 69, 70, 71, 72, 73, 74, 75, 76, 77, 78, 79, 80, 81, 82, 83, 84, 85, 86, 87, 88, 90, 91, 92, 93, 94, 95, 96, 97, 98, 99, 100]) [(89, .t (num j))], Go.Ot.look (vD (.r 1 1 0) (xR 245 (cls w32 (pC h (lI h (wX s 64) 64) j))) L)⟩) (fun j => j ≤ 8) (fun j => 8 - j) (0) (wF ?_) ?_ ?_
   ·refine yT ?_ ?_ ?_ <;> simp [-List.map_set, -List.map_replicate, -List.reduceReplicate, -List.map_map, -List.map_drop, -List.map_take, pC]
   ·(first | omega | simp)
   ·intro j hj
    have ha : (pC h (lI h (wX s 64) 64) j).length = 8 := (mZ _ _ _).trans hr
    refine vE ?_
    refine yD (yA rfl ?_)
    refine yF ?_
    refine yE (yB (yC (yD ?_)))
    refine vL (fun hc1 => ?_) (fun hc1 => ?_)
    ·(try simp only [zB] at hc1)
     refine yL (yC (yD (yH (yD (yA rfl ?_)))))
     iterate 2 refine yF ?_
     refine yE (yB (yC (yA rfl ?_)))
     iterate 9 refine yY ?_
     refine yE (xO (by kernel_rfl) (yS (yC (yA rfl ?_))))
     iterate 2 refine yF ?_
     refine yE (yB ?_)
     refine xE (j + 1) (wF ?_) ?_ ?_
     ·refine yT ?_ ?_ ?_ <;> simp [-List.map_set, -List.map_replicate, -List.reduceReplicate, -List.map_map, -List.map_drop, -List.map_take, pC]
     ·(first | omega | (simp_all <;> omega))
     ·(first | omega | (simp only []; omega))
    ·(try simp only [zB] at hc1)
     refine xQ (yM (yN (yK (yC (yD (yA rfl ?_))))))
     obtain rfl : j = 8 := by omega
     iterate 2 refine yF ?_
     refine yE (yB (yC (yO ?_)))
     refine ⟨.inr rfl, yP [] (by rw [results176]) ?_ ?_ ?_⟩ <;> simp [-List.map_set, -List.map_replicate, -List.reduceReplicate, -List.map_map, -List.map_drop, -List.map_take, takeB, ha]
end Go.Proofs.Tryz
