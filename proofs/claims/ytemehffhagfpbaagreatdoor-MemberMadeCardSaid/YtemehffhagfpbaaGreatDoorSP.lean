/- Contracts of this program's functions. -/
import Derived.Test.YtemehffhagfpbaaGreatDoorSI
set_option maxHeartbeats 4000000
set_option maxRecDepth 100000
set_option linter.unusedVariables false
set_option linter.unusedSimpArgs false
namespace Go.Proofs.Tryz
open Go Go.Ot
attribute [local irreducible] wpK wpS seqK blockK loopF regK meetK OpSpec Le

theorem sl32_bv (x : UInt32) (k : Nat) : (sl32 x k).toBitVec = x.toBitVec <<< k := by
 apply BitVec.eq_of_toNat_eq
 simp only [sl32, UInt32.toBitVec_ofNat', BitVec.toNat_ofNat, BitVec.toNat_shiftLeft]
 rfl
theorem sl32_or (x y : UInt32) (k : Nat) : sl32 (x ||| y) k = sl32 x k ||| sl32 y k := by
 apply UInt32.toBitVec_inj.1
 simp only [sl32_bv, UInt32.toBitVec_or, BitVec.shiftLeft_or_distrib]
theorem sl32_sl32 (x : UInt32) (k l : Nat) : sl32 (sl32 x k) l = sl32 x (k + l) := by
 apply UInt32.toBitVec_inj.1
 simp only [sl32_bv, BitVec.shiftLeft_add]
theorem sl32_zero (k : Nat) : sl32 0 k = 0 := by
 apply UInt32.toBitVec_inj.1
 rw [sl32_bv]
 simp
theorem word_eq {p : List UInt8} {i j : Nat} (hj : j < 16) :
  sl32 (p.getD (64 * i + 4 * j) 0).toUInt32 24 ||| sl32 (p.getD (64 * i + 4 * j + 1) 0).toUInt32 16 ||| sl32 (p.getD (64 * i + 4 * j + 2) 0).toUInt32 8 ||| (p.getD (64 * i + 4 * j + 3) 0).toUInt32 = wordTo ((p.drop (64 * i)).take 64) j 4 := by
 have g : ∀ k, k < 4 → ((p.drop (64 * i)).take 64).getD (4 * j + k) 0 = p.getD (64 * i + 4 * j + k) 0 := by
  intro k hk
  simp only [List.getD_eq_getElem?_getD, List.getElem?_take, List.getElem?_drop]
  rw [if_pos (by omega), show 64 * i + (4 * j + k) = 64 * i + 4 * j + k from by omega]
 have g0 := g 0 (by omega)
 rw [Nat.add_zero, Nat.add_zero] at g0
 simp only [wordTo, Nat.add_zero, g0, g 1 (by omega), g 2 (by omega), g 3 (by omega), sl32_zero, sl32_or, sl32_sl32, UInt32.zero_or, Nat.reduceAdd]
theorem sched_stable (s : List UInt8) (j : Nat) : ∀ d, (sched s (j + 1 + d)).getD j 0 = (sched s (j + 1)).getD j 0
 | 0 => rfl
 | d + 1 => by
  rw [← sched_stable s j d]
  show ((sched s (j + 1 + d)).set (j + 1 + d) _).getD j 0 = _
  simp only [List.getD_eq_getElem?_getD]
  rw [List.getElem?_set_ne (by omega)]
theorem sched_at (s : List UInt8) {j : Nat} (hj : j < 64) : (sched s 64).getD j 0 = if j < 16 then wordTo s j 4 else nextW (sched s j) j := by
 have h := sched_stable s j (63 - j)
 rw [show j + 1 + (63 - j) = 64 from by omega] at h
 rw [h]
 show ((sched s j).set j _).getD j 0 = _
 rw [getD_set_self (by rw [sched_len]; exact hj)]
theorem sched_lt (s : List UInt8) {j t : Nat} (hj : j ≤ 64) (ht : t < j) : (sched s j).getD t 0 = (sched s 64).getD t 0 := by
 have h := sched_stable s t (63 - t)
 have k := sched_stable s t (j - 1 - t)
 rw [show t + 1 + (63 - t) = 64 from by omega] at h
 rw [show t + 1 + (j - 1 - t) = j from by omega] at k
 rw [h, k]
/-- What the reference lays into its words. -/
theorem next_eq {s : List UInt8} {w : List UInt32} {j : Nat} (h16 : 16 ≤ j) (hj : j < 64) (hw : ∀ t, t < j → w.getD t 0 = (sched s 64).getD t 0) :
  w.getD (j - 16) 0 + w.getD (j - 7) 0 + (lft (w.getD (j - 15) 0) 25 ^^^ lft (w.getD (j - 15) 0) 14 ^^^ sr32 (w.getD (j - 15) 0) 3) + (lft (w.getD (j - 2) 0) 15 ^^^ lft (w.getD (j - 2) 0) 13 ^^^ sr32 (w.getD (j - 2) 0) 10) = (sched s 64).getD j 0 := by
 rw [sched_at s hj, if_neg (by omega)]
 simp only [nextW, sig0, sig1]
 rw [sched_lt s (by omega) (show j - 16 < j from by omega), sched_lt s (by omega) (show j - 7 < j from by omega), sched_lt s (by omega) (show j - 15 < j from by omega), sched_lt s (by omega) (show j - 2 < j from by omega),
  hw _ (show j - 16 < j from by omega), hw _ (show j - 7 < j from by omega), hw _ (show j - 15 < j from by omega), hw _ (show j - 2 < j from by omega)]
 rw [← lft_rotr _ 7 (by omega), ← lft_rotr _ 18 (by omega), ← lft_rotr _ 17 (by omega), ← lft_rotr _ 19 (by omega)]
theorem take7 {l : List UInt32} (hl : l.length = 8) (x : UInt32) : (l.take 7).set 3 x = [l.getD 0 0, l.getD 1 0, l.getD 2 0, x, l.getD 4 0, l.getD 5 0, l.getD 6 0] := by
 match l, hl with
 | [_, _, _, _, _, _, _, _], _ => rfl
def addR (h v : List UInt32) : Nat → List UInt32
 | 0 => h
 | i + 1 => (addR h v i).set i ((addR h v i).getD i 0 + v.getD i 0)
theorem addR_len (h v : List UInt32) : ∀ i, (addR h v i).length = h.length
 | 0 => rfl
 | i + 1 => by simp [addR, addR_len h v i]
theorem addR_eq {h v : List UInt32} (hh : h.length = 8) (hv : v.length = 8) : addR h v 8 = addTo h v 8 := by
 match h, hh, v, hv with
 | [a, b, c, d, e, f, g, i], _, [a', b', c', d', e', f', g', i'], _ =>
  simp [addR, addTo, UInt32.add_comm]
theorem ofInt_mul8 (n : Nat) (hn : n ≤ 1000000000) : UInt64.ofInt (8 * (n : Int)) = UInt64.ofInt (n : Int) * 8 := by
 apply UInt64.toNat_inj.1
 have h1 := wi64 (8 * (n : Int))
 have h2 := wi64 (n : Int)
 rw [wrapu64 (by omega) (by omega)] at h1 h2
 rw [UInt64.toNat_mul]
 have : (8 : UInt64).toNat = 8 := rfl
 rw [this]
 omega
theorem padB_eight (s : List UInt8) (hs : s.length ≤ 1000000000) : padB s = s ++ [128] ++ List.replicate ((120 - (s.length + 1) % 64) % 64) 0 ++ eight (8 * s.length) := by
 rw [padB, eight, ofInt_mul8 _ hs]

end Go.Proofs.Tryz
