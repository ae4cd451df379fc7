import Derived.Test.YtihkemlgdfjmjaaDoorSV
set_option maxHeartbeats 4000000
set_option maxRecDepth 100000
set_option linter.unusedVariables false
set_option linter.unusedSimpArgs false
namespace Go.Proofs.Tryd
open Go Go.Ot

def derX (a b c : List UInt8) (n : Int) : List UInt8 := if n < 0 then [] else if 8160 < n then [] else derB hmacB a b c n.toNat
theorem derX_in {a b c : List UInt8} {n : Int} (h : 0 ≤ n) (h1 : n ≤ 8160) : derX a b c n = derB hmacB a b c n.toNat := by
  simp only [derX]
  rw [if_neg (by omega), if_neg (by omega)]
theorem derX_out {a b c : List UInt8} {n : Int} (h : n < 0 ∨ 8160 < n) : derX a b c n = [] := by
  simp only [derX]
  by_cases h1 : n < 0
  · rw [if_pos h1]
  · rw [if_neg h1, if_pos (by omega)]
theorem derB_zero (H : List UInt8 → List UInt8 → List UInt8) (a b c : List UInt8) : derB H a b c 0 = [] := by simp [derB]
theorem derive_good (Γ : Gl) (a b c : List UInt8) (n : Int) (ha : a.length ≤ 1000000) (hb : b.length ≤ 1000000) (hc : c.length ≤ 1000000) : Go.Ot.Good Γ prog 23 [.t (txt a), .t (txt b), .t (txt c), .t (num n)] [] (.t (txt (derX a b c n))) [] [] := by
  by_cases h : n < 0 ∨ 8160 < n
  · rw [derX_out h]
    rcases h with h | h
    · exact derive_lo Γ a b c n h
    · exact derive_hi Γ a b c n h
  · rw [derX_in (by omega) (by omega)]
    obtain ⟨k, rfl⟩ := Int.eq_ofNat_of_zero_le (show 0 ≤ n by omega)
    cases k with
    | zero =>
      have := derive_zero Γ a b c ha hb hc hmacB hmacB_len (fun k l => mac_good Γ k l)
      rw [show ((0 : Nat) : Int).toNat = 0 from rfl, derB_zero]
      exact this
    | succ k => exact derive_pos Γ a b c (k + 1) (by omega) (by omega) ha hb hc hmacB hmacB_len (fun k l => mac_good Γ k l)
theorem refderive_good (Γ : Gl) (a b c : List UInt8) (n : Int) (ha : a.length ≤ 1000000) (hb : b.length ≤ 1000000) (hc : c.length ≤ 1000000) : Go.Ot.Good Γ prog 18 [.t (txt a), .t (txt b), .t (txt c), .t (num n)] [] (.t (txt (derX a b c n))) [] [] := by
  by_cases h : n < 0 ∨ 8160 < n
  · rw [derX_out h]
    rcases h with h | h
    · exact ref_lo Γ a b c n h
    · exact ref_hi Γ a b c n h
  · rw [derX_in (by omega) (by omega)]
    obtain ⟨k, rfl⟩ := Int.eq_ofNat_of_zero_le (show 0 ≤ n by omega)
    exact ref_ok Γ a b c k (by omega) ha hb hc hmacB hmacB_len (fun k s => refmac_good Γ k s)

end Go.Proofs.Tryd
