/- Contracts of this program's functions. -/
import Derived.Test.YtkbikblijipceaaGreatDoorSR3
set_option maxHeartbeats 4000000
set_option maxRecDepth 100000
set_option linter.unusedVariables false
set_option linter.unusedSimpArgs false
namespace Go.Proofs.Tryz
open Go Go.Ot

theorem wrap_u64 (n : Int) : IntKind.u64.wrap n = (u64 n : Int) := by
 simp only [IntKind.wrap, IntKind.bits, IntKind.signed, u64]
 simp
 omega
def nbS (sz x : Nat) (j : Nat) : List UInt8 := (List.range j).map (fun t => UInt8.ofNat (x / 256 ^ (sz - 1 - t)))
theorem nbS_zero (sz x : Nat) : nbS sz x 0 = [] := rfl
theorem nbS_succ (sz x j : Nat) : nbS sz x (j + 1) = nbS sz x j ++ [UInt8.ofNat (x / 256 ^ (sz - 1 - j))] := by simp [nbS, List.range_succ]
theorem nbS_len (sz x j : Nat) : (nbS sz x j).length = j := by simp [nbS]
theorem nbS_full : ∀ (sz x : Nat), nbS sz x sz = nb sz x
 | 0, x => rfl
 | sz + 1, x => by
  rw [nbS_succ, nb, ← nbS_full sz (x / 256)]
  congr 1
  ·apply List.map_congr_left
   intro t ht
   rw [List.mem_range] at ht
   rw [Nat.div_div_eq_div_mul, show sz + 1 - 1 - t = (sz - 1 - t) + 1 from by omega, Nat.pow_succ, Nat.mul_comm]
  ·simp
theorem byte_shr (x k : Nat) : UInt8.ofInt ((x : Int) / 2 ^ (8 * k)) = UInt8.ofNat (x / 256 ^ k) := by
 have e : 2 ^ (8 * k) = 256 ^ k := by rw [Nat.pow_mul]
 rw [show (2 : Int) ^ (8 * k) = ((2 ^ (8 * k) : Nat) : Int) from by simp, e, ← Int.natCast_ediv]
 apply UInt8.toNat_inj.1
 rw [UInt8.ofInt, UInt8.toNat_ofNat', UInt8.toNat_ofNat']
 omega
theorem putS_1 {sub : Wr → List UInt8} {n : Int} {s : List UInt8} {l : List Wr} : putS sub (.mk 1 n s l) = 1 :: nb 8 (u64 n) := by simp [putS]
theorem putS_2 {sub : Wr → List UInt8} {n : Int} {s : List UInt8} {l : List Wr} : putS sub (.mk 2 n s l) = 2 :: (nb 4 s.length ++ s) := by simp [putS]; rfl
theorem putS_3 {sub : Wr → List UInt8} {n : Int} {s : List UInt8} {l : List Wr} : putS sub (.mk 3 n s l) = 3 :: (nb 4 l.length ++ l.flatMap sub) := by simp [putS]; rfl
theorem mayS_k {deep : Bool} {sub : Wr → Bool} {k n : Int} {s : List UInt8} {l : List Wr} (h : mayS deep sub (.mk k n s l) = true) : k = 1 ∨ (k = 2 ∧ s.length ≤ 1048576) ∨ (k = 3 ∧ l.length ≤ 65536 ∧ ∀ w ∈ l, sub w = true) := by
 by_cases h1 : k = 1
 ·exact .inl h1
 ·by_cases h2 : k = 2
  ·subst h2
   rw [mayS_2] at h
   simp only [Bool.and_eq_true, decide_eq_true_eq] at h
   exact .inr (.inl ⟨rfl, h.2⟩)
  ·by_cases h3 : k = 3
   ·subst h3
    rw [mayS_3] at h
    simp only [Bool.and_eq_true, decide_eq_true_eq, List.all_eq_true] at h
    exact .inr (.inr ⟨rfl, h.1.2, h.2⟩)
   ·rw [mayS_o ⟨h1, h2, h3⟩] at h; cases h
/-- The bytes of the first of a list's wires. -/
def fmT (put : Wr → List UInt8) (l : List Wr) (i : Nat) : List UInt8 := (l.take i).flatMap put
theorem fmT_zero (put : Wr → List UInt8) (l : List Wr) : fmT put l 0 = [] := rfl
theorem fmT_next {put : Wr → List UInt8} {l : List Wr} {i : Nat} (h : i < l.length) : fmT put l (i + 1) = fmT put l i ++ put (l.getD i default) := by
 rw [fmT, fmT, List.take_add_one, List.getElem?_eq_getElem h, List.flatMap_append]
 simp [List.getD_eq_getElem?_getD, List.getElem?_eq_getElem h]
theorem fmT_full (put : Wr → List UInt8) (l : List Wr) : fmT put l l.length = l.flatMap put := by rw [fmT, List.take_length]
theorem fmT_len {put : Wr → List UInt8} {l : List Wr} {i : Nat} : (fmT put l i).length ≤ (fmT put l l.length).length := by
 rw [fmT_full, fmT]
 conv => rhs; rw [← List.take_append_drop i l, List.flatMap_append, List.length_append]
 omega
theorem putS_3' {sub : Wr → List UInt8} {n : Int} {s : List UInt8} {l : List Wr} : putS sub (.mk 3 n s l) = 3 :: (nb 4 l.length ++ fmT sub l l.length) := by rw [putS_3, fmT_full]
attribute [push_cast] nb_len

end Go.Proofs.Tryz
