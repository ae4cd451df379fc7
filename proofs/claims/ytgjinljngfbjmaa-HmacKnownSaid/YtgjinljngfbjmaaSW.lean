import Derived.Test.YtgjinljngfbjmaaSV
import Derived.Test.YtgjinljngfbjmaaSM
set_option maxHeartbeats 4000000
set_option maxRecDepth 100000
set_option linter.unusedVariables false
set_option linter.unusedSimpArgs false
namespace Go.Proofs.Try
open Go Go.Ot

def derX (a b c : List UInt8) (n : Int) : List UInt8 := if n < 0 then [] else if 8160 < n then [] else derB hmacB a b c n.toNat
theorem derX_in {a b c : List UInt8} {n : Int} (h : 0 ≤ n) (h1 : n ≤ 8160) : derX a b c n = derB hmacB a b c n.toNat := by
  simp only [derX]
  rw [if_neg (by omega), if_neg (by omega)]
theorem derX_out {a b c : List UInt8} {n : Int} (h : n < 0 ∨ 8160 < n) : derX a b c n = [] := by
  simp only [derX]
  by_cases h1 : n < 0
  · rw [if_pos h1]
  · rw [if_neg h1, if_pos (by omega)]
theorem derB_zero (H : List UInt8 → List UInt8 → List UInt8) (a b c : List UInt8) : derB H a b c 0 = [] := by simp [derB]
theorem derive_good (Γ : Gl) (a b c : List UInt8) (n : Int) (ha : a.length ≤ 1000000) (hb : b.length ≤ 1000000) (hc : c.length ≤ 1000000) : Go.Ot.Good Γ prog 13 [.t (txt a), .t (txt b), .t (txt c), .t (num n)] [] (.t (txt (derX a b c n))) [] [] := by
  by_cases h : n < 0 ∨ 8160 < n
  · rw [derX_out h]
    rcases h with h | h
    · exact derive_lo Γ a b c n h
    · exact derive_hi Γ a b c n h
  · rw [derX_in (by omega) (by omega)]
    obtain ⟨k, rfl⟩ := Int.eq_ofNat_of_zero_le (show 0 ≤ n by omega)
    cases k with
    | zero =>
      have := derive_zero Γ a b c ha hb hc hmacB hmacB_len (fun k l => mac_good Γ k l)
      rw [show ((0 : Nat) : Int).toNat = 0 from rfl, derB_zero]
      exact this
    | succ k => exact derive_pos Γ a b c (k + 1) (by omega) (by omega) ha hb hc hmacB hmacB_len (fun k l => mac_good Γ k l)
theorem refderive_good (Γ : Gl) (a b c : List UInt8) (n : Int) (ha : a.length ≤ 1000000) (hb : b.length ≤ 1000000) (hc : c.length ≤ 1000000) : Go.Ot.Good Γ prog 14 [.t (txt a), .t (txt b), .t (txt c), .t (num n)] [] (.t (txt (derX a b c n))) [] [] := by
  by_cases h : n < 0 ∨ 8160 < n
  · rw [derX_out h]
    rcases h with h | h
    · exact ref_lo Γ a b c n h
    · exact ref_hi Γ a b c n h
  · rw [derX_in (by omega) (by omega)]
    obtain ⟨k, rfl⟩ := Int.eq_ofNat_of_zero_le (show 0 ≤ n by omega)
    exact ref_ok Γ a b c k (by omega) ha hb hc hmacB hmacB_len (fun k s => refmac_good Γ k s)
attribute [local irreducible] wpK wpS seqK blockK loopF regK meetK OpSpec Le sched wordTo rnds addTo rotr chunks takeB be64 outB sha padB xorTo keyB hmacB orTo keyOf hk hkAll derB derX
theorem hder_good (Γ : Gl) (a b c : List UInt8) (n : Int) (ha : a.length ≤ maxLen) (hb : b.length ≤ maxLen) (hc : c.length ≤ maxLen) : Go.Ot.Good Γ prog 6 [.t (txt a), .t (txt b), .t (txt c), .t (num n)] [] (.t (bol true)) [] [] := by
  refine a_body F.mix func6 (by rfl) ntmps6 ?_
  refine k_seq ?_
  refine k_region rfl ?_
  refine a_op ?_
  refine s_nil (r_false ?_)
  refine q_next ?_
  refine k_seq ?_
  refine k_seq ?_
  refine k_region rfl ?_
  rcases Bool.eq_false_or_eq_true (decide (200 < (a.length : Int)) || decide (200 < (b.length : Int)) || decide (200 < (c.length : Int))) with hx | hx
  · skip
    iterate 4 refine a_op ?_
    refine a_may ?_
    refine a_may ?_
    refine a_may ?_
    refine a_op ?_
    refine a_op ?_
    refine a_may ?_
    refine a_may ?_
    refine a_may ?_
    refine a_op ?_
    simp only [hx]
    refine a_op ?_
    refine a_no ?_
    refine a_no ?_
    refine a_no ?_
    refine a_no ?_
    refine a_no ?_
    refine a_no ?_
    refine a_op ?_
    refine s_nil (r_false ?_)
    refine q_next ?_
    refine a_true ?_
    refine k_seq ?_
    refine k_region rfl ?_
    refine a_call [] false (awake_good Γ) ?_
    refine a_op ?_
    refine s_nil (r_false ?_)
    refine q_next ?_
    refine k_ret ?_
    refine q_seq_ret ?_
    refine ⟨.inr rfl, a_ret [] (by rw [results6]) ?_ ?_ ?_⟩ <;> simp [-List.map_set, -List.map_replicate, -List.reduceReplicate, -List.map_map, -List.map_drop, -List.map_take, num, bol, txt, w8, w16, w32, w64, lst, cls, rowO, boxO, List.take_of_length_le]
  · skip
    iterate 4 refine a_op ?_
    refine a_may ?_
    refine a_may ?_
    refine a_may ?_
    refine a_op ?_
    refine a_op ?_
    refine a_may ?_
    refine a_may ?_
    refine a_may ?_
    refine a_op ?_
    simp only [hx]
    refine a_op ?_
    refine a_go ?_
    refine a_go ?_
    refine a_go ?_
    refine a_may ?_
    refine a_may ?_
    refine a_go ?_
    refine a_op ?_
    refine s_nil (r_false ?_)
    refine q_next ?_
    refine a_if (fun hc0 => ?_) (fun hc0 => ?_)
    · (try simp only [Bool.and_eq_true, Bool.or_eq_true, Bool.or_eq_false_iff, Bool.not_eq_true', Bool.not_eq_false', dec_t, dec_f, Bool.and_eq_false_imp, beq_iff_eq, beq_eq_false_iff_ne, ne_eq] at hc0)
      refine k_seq ?_
      refine k_region rfl ?_
      refine a_call [] false (awake_good Γ) ?_
      refine a_op ?_
      refine s_nil (r_false ?_)
      refine q_next ?_
      refine k_ret ?_
      refine q_seq_ret ?_
      refine ⟨.inr rfl, a_ret [] (by rw [results6]) ?_ ?_ ?_⟩ <;> simp [-List.map_set, -List.map_replicate, -List.reduceReplicate, -List.map_map, -List.map_drop, -List.map_take, num, bol, txt, w8, w16, w32, w64, lst, cls, rowO, boxO, List.take_of_length_le]
    · (try simp only [Bool.and_eq_true, Bool.or_eq_true, Bool.or_eq_false_iff, Bool.not_eq_true', Bool.not_eq_false', dec_t, dec_f, Bool.and_eq_false_imp, beq_iff_eq, beq_eq_false_iff_ne, ne_eq] at hc0)
      refine k_skip ?_
      refine q_next ?_
      refine k_seq ?_
      refine k_region rfl ?_
      simp only [Bool.or_eq_false_iff, decide_eq_false_iff_not] at hx
      iterate 4 refine a_op ?_
      refine a_call [] false (derive_good Γ a b c n (by omega) (by omega) (by omega)) ?_
      iterate 4 refine a_op ?_
      refine a_call [] false (refderive_good Γ a b c n (by omega) (by omega) (by omega)) ?_
      refine a_op ?_
      refine a_op ?_
      refine a_callgo [] false (awake_good Γ) ?_
      refine a_op ?_
      refine a_op ?_
      refine s_nil (r_false ?_)
      refine q_next ?_
      refine k_ret ?_
      refine ⟨.inr rfl, a_ret [] (by rw [results6]) ?_ ?_ ?_⟩ <;> simp [-List.map_set, -List.map_replicate, -List.reduceReplicate, -List.map_map, -List.map_drop, -List.map_take, num, bol, txt, w8, w16, w32, w64, lst, cls, rowO, boxO, List.take_of_length_le]

end Go.Proofs.Try
