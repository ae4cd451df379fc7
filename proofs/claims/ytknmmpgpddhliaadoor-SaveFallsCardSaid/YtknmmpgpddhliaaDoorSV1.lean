/- Contracts of this program's functions. -/
import Derived.Test.YtknmmpgpddhliaaDoorSV0
import Derived.Test.YtknmmpgpddhliaaDoorSVAs
import Derived.Test.YtknmmpgpddhliaaDoorSD3
import Derived.Test.YtknmmpgpddhliaaDoorSD4
import Derived.Test.YtknmmpgpddhliaaDoorSD5
set_option maxHeartbeats 4000000
set_option maxRecDepth 100000
set_option linter.unusedVariables false
set_option linter.unusedSimpArgs false
namespace Go.Proofs.Tryd
open Go Go.Ot

open Ce
def enc (k : Int) (t : List UInt8) : List UInt8 := PutW (.mk 1 k [] []) ++ t
/-- What a side has one hold for kept. -/
def sideF (k : Int) (t b : List UInt8) : Int × List UInt8 :=
  if b.length < 9 then (k, t) else match got (b.take 9) with
    | some w => if k < w.n then (w.n, b.drop 9) else (k, t)
    | none => (k, t)
theorem sideF_short {k : Int} {t b : List UInt8} (h : b.length < 9) : sideF k t b = (k, t) := by rw [sideF, if_pos h]
theorem sideF_none {k : Int} {t b : List UInt8} (h : got (b.take 9) = none) : sideF k t b = (k, t) := by
  rw [sideF, h]; split <;> rfl
theorem sideF_more {k : Int} {t b : List UInt8} {w : Wr} (h9 : ¬ b.length < 9) (h : got (b.take 9) = some w) (hk : k < w.n) : sideF k t b = (w.n, b.drop 9) := by
  rw [sideF, if_neg h9, h]; exact if_pos hk
theorem sideF_less {k : Int} {t b : List UInt8} {w : Wr} (h : got (b.take 9) = some w) (hk : ¬ k < w.n) : sideF k t b = (k, t) := by
  rw [sideF, h]; simp only [if_neg hk]; split <;> rfl
theorem enc_len (k : Int) (t : List UInt8) : (enc k t).length = 9 + t.length := by rw [enc, List.length_append, num_plen]
theorem sideF_enc {k j : Int} {t u : List UInt8} (h1 : -9223372036854775808 ≤ j) (h2 : j ≤ 9223372036854775807) : sideF k t (enc j u) = if k < j then (j, u) else (k, t) := by
  have hl := num_plen j
  have e1 : (enc j u).take 9 = PutW (.mk 1 j [] []) := by rw [enc, ← hl, List.take_left]
  have e2 : (enc j u).drop 9 = u := by rw [enc, ← hl, List.drop_left]
  have hg : got ((enc j u).take 9) = some (.mk 1 j [] []) := by rw [e1]; exact num_got h1 h2
  by_cases h : k < j
  · rw [sideF_more (by rw [enc_len]; omega) hg h, if_pos h, e2]; rfl
  · rw [sideF_less hg h, if_neg h]
/-- What the sides tell, one behind the other. -/
def opn (s : St4) : Nat → Int × List UInt8
  | 0 => (0, [])
  | i + 1 => sideF (opn s i).1 (opn s i).2 (s i)
theorem opn_0 (s : St4) : opn s 0 = (0, []) := rfl
theorem opn_s (s : St4) (i : Nat) : opn s (i + 1) = sideF (opn s i).1 (opn s i).2 (s i) := rfl
/-- The cells have a text for kept, at that turn. -/
def Kp (s : St4) (k : Nat) (t : List UInt8) : Prop :=
  (k = 0 ∧ t = [] ∧ s 0 = [] ∧ s 1 = []) ∨ (0 < k ∧ s (k % 2) = enc k t ∧ (s ((k + 1) % 2) = [] ∨ ∃ (j : Nat) (u : List UInt8), j < k ∧ s ((k + 1) % 2) = enc j u))
theorem Kp_0 : Kp (fun _ => []) 0 [] := .inl ⟨rfl, rfl, rfl, rfl⟩
theorem sideF_nil (k : Int) (t : List UInt8) : sideF k t [] = (k, t) := sideF_short (by decide)
theorem Kp_open {s : St4} {k : Nat} {t : List UInt8} (h : Kp s k t) (hk : k ≤ 1000000) : opn s 2 = ((k : Int), t) := by
  rw [opn_s, opn_s, opn_0]
  rcases h with ⟨rfl, rfl, h0, h1⟩ | ⟨hp, h0, h1⟩
  · rw [h0, h1, sideF_nil, sideF_nil]; rfl
  · rcases Nat.mod_two_eq_zero_or_one k with e | e
    · have e' : (k + 1) % 2 = 1 := by omega
      rw [e] at h0; rw [e'] at h1
      rw [h0, sideF_enc (by omega) (by omega), if_pos (by simp only []; omega)]
      rcases h1 with h1 | ⟨j, u, hj, h1⟩
      · rw [h1, sideF_nil]
      · rw [h1, sideF_enc (by omega) (by omega), if_neg (by simp only []; omega)]
    · have e' : (k + 1) % 2 = 0 := by omega
      rw [e] at h0; rw [e'] at h1
      rw [h0, sideF_enc (by omega) (by omega)]
      rcases h1 with h1 | ⟨j, u, hj, h1⟩
      · rw [h1, sideF_nil, if_pos (by simp only []; omega)]
      · rw [h1, sideF_enc (by omega) (by omega)]
        by_cases hj0 : (0 : Int) < j
        · rw [if_pos hj0, if_pos (by simp only []; omega)]
        · rw [if_neg hj0, if_pos (by simp only []; omega)]
theorem Kp_next {s : St4} {k : Nat} {t u : List UInt8} (h : Kp s k t) : Kp (Ce.upd s ((k + 1) % 2) (enc ((k + 1 : Nat) : Int) u)) (k + 1) u := by
  refine .inr ⟨by omega, by simp [Ce.upd], ?_⟩
  have e : (k + 1 + 1) % 2 = k % 2 := by omega
  have ne : k % 2 ≠ (k + 1) % 2 := by omega
  rw [e]
  simp only [Ce.upd, if_neg ne]
  rcases h with ⟨rfl, rfl, h0, h1⟩ | ⟨hp, h0, h1⟩
  · exact .inl h0
  · exact .inr ⟨k, t, by omega, h0⟩
theorem nowF1 (s : St4) (m : Nat) (e : List UInt8) : nowF s [(m, e)] = Ce.upd s m e := rfl
theorem in4_one {m : Nat} {e : List UInt8} (h : m < 4) : In4 [(m, e)] := by
  intro i hi
  simp at hi; subst hi; exact h
/-- An error of a side. -/
def erS (n i : Int) : T := .ifc 77 (.agg [num i, .ifc 67 (.agg [num n])])
@[push_cast] theorem erS_eq (n i : Int) : erS n i = .ifc 77 (.agg [num i, .ifc 67 (.agg [num n])]) := rfl
theorem erS_plain (n i : Int) : (erS n i).plain = some (Sv.wv (.agg #[.int .i64 n]) [i]) := by simp [erS, T.plain, T.plains, num, Sv.wv, Sv.wvT, Sv.wvV]

end Go.Proofs.Tryd
