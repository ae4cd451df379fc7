import Derived.Test.YtgjinljngfbjmaaSW
set_option maxHeartbeats 4000000
set_option maxRecDepth 100000
set_option linter.unusedVariables false
set_option linter.unusedSimpArgs false
namespace Go.Proofs.Try
open Go Go.Ot

theorem hkAll_pre (H : List UInt8 → List UInt8 → List UInt8) (key info : List UInt8) (k : Nat) : ∀ j, ∃ r, hkAll H key info (k + j) = hkAll H key info k ++ r
  | 0 => ⟨[], by simp⟩
  | j + 1 => by
    obtain ⟨r, h⟩ := hkAll_pre H key info k j
    exact ⟨r ++ hk H key info (k + j + 1), by rw [← Nat.add_assoc, hkAll, h, List.append_assoc]⟩
theorem derB_len {H : List UInt8 → List UInt8 → List UInt8} (hH : ∀ k s, (H k s).length = 32) (a b c : List UInt8) (n : Nat) : (derB H a b c n).length = n := by
  simp only [derB, List.length_take, hkAll_len hH]
  omega
theorem derB_take {H : List UInt8 → List UInt8 → List UInt8} (hH : ∀ k s, (H k s).length = 32) (a b c : List UInt8) (n m : Nat) : (derB H a b c (n + m)).take n = derB H a b c n := by
  simp only [derB]
  obtain ⟨r, h⟩ := hkAll_pre H (H a b) c ((n + 31) / 32) ((n + m + 31) / 32 - (n + 31) / 32)
  rw [show (n + 31) / 32 + ((n + m + 31) / 32 - (n + 31) / 32) = (n + m + 31) / 32 from by omega] at h
  rw [h, List.take_take, show min n (n + m) = n from by omega, List.take_append_of_le_length (by rw [hkAll_len hH]; omega)]
theorem derX_len (a b c : List UInt8) (n : Nat) (h : n ≤ 8160) : (derX a b c n).length = n := by
  rw [derX_in (by omega) (by omega)]
  exact derB_len hmacB_len a b c n
theorem derX_take (a b c : List UInt8) (n m : Nat) (h : n + m ≤ 8160) : (derX a b c (n + m)).take n = derX a b c n := by
  rw [derX_in (by omega) (by omega), derX_in (by omega) (by omega)]
  exact derB_take hmacB_len a b c n m
attribute [local irreducible] wpK wpS seqK blockK loopF regK meetK OpSpec Le sched wordTo rnds addTo rotr chunks takeB be64 outB sha padB xorTo keyB hmacB orTo keyOf hk hkAll derB derX
theorem hless_good (Γ : Gl) (a b c : List UInt8) (x y : UInt8) (ha : a.length ≤ maxLen) (hb : b.length ≤ maxLen) (hc : c.length ≤ maxLen) : Go.Ot.Good Γ prog 7 [.t (txt a), .t (txt b), .t (txt c), .t (w8 x), .t (w8 y)] [] (.t (bol true)) [] [] := by
  refine a_body F.mix func7 (by rfl) ntmps7 ?_
  refine k_seq ?_
  refine k_region rfl ?_
  refine a_op ?_
  refine s_nil (r_false ?_)
  refine q_next ?_
  refine k_seq ?_
  refine k_seq ?_
  refine k_region rfl ?_
  iterate 4 refine a_op ?_
  refine a_may ?_
  refine a_may ?_
  refine a_may ?_
  refine a_op ?_
  refine a_op ?_
  refine a_may ?_
  refine a_may ?_
  refine a_may ?_
  refine a_op ?_
  refine s_nil (r_false ?_)
  refine q_next ?_
  refine a_if (fun hc0 => ?_) (fun hc0 => ?_)
  · (try simp only [Bool.and_eq_true, Bool.or_eq_true, Bool.or_eq_false_iff, Bool.not_eq_true', Bool.not_eq_false', dec_t, dec_f, Bool.and_eq_false_imp, beq_iff_eq, beq_eq_false_iff_ne, ne_eq] at hc0)
    refine k_seq ?_
    refine k_region rfl ?_
    refine a_call [] false (awake_good Γ) ?_
    refine a_op ?_
    refine s_nil (r_false ?_)
    refine q_next ?_
    refine k_ret ?_
    refine q_seq_ret ?_
    refine ⟨.inr rfl, a_ret [] (by rw [results7]) ?_ ?_ ?_⟩ <;> simp [-List.map_set, -List.map_replicate, -List.reduceReplicate, -List.map_map, -List.map_drop, -List.map_take, num, bol, txt, w8, w16, w32, w64, lst, cls, rowO, boxO, List.take_of_length_le]
  · (try simp only [Bool.and_eq_true, Bool.or_eq_true, Bool.or_eq_false_iff, Bool.not_eq_true', Bool.not_eq_false', dec_t, dec_f, Bool.and_eq_false_imp, beq_iff_eq, beq_eq_false_iff_ne, ne_eq] at hc0)
    refine k_skip ?_
    refine q_next ?_
    refine k_seq ?_
    refine k_region rfl ?_
    have hx := x.toNat_lt
    have hy := y.toNat_lt
    have e1 := derX_len a b c x.toNat (by omega)
    have e2 := derX_len a b c (x.toNat + y.toNat) (by omega)
    have e3 := derX_take a b c x.toNat y.toNat (by omega)
    have e4 : derX a b c (-1 - (y.toNat : Int)) = [] := derX_out (by omega)
    have e5 : derX a b c (8161 + (y.toNat : Int)) = [] := derX_out (by omega)
    simp only [Int.natCast_add] at e2
    iterate 5 refine a_op ?_
    refine a_call [] false (derive_good Γ a b c (x.toNat) (by omega) (by omega) (by omega)) ?_
    iterate 8 refine a_op ?_
    refine a_call [] false (derive_good Γ a b c ((x.toNat : Int) + y.toNat) (by omega) (by omega) (by omega)) ?_
    refine a_op ?_
    refine a_op ?_
    refine s_nil (r_false ?_)
    refine q_next ?_
    refine k_seq ?_
    refine k_region rfl ?_
    iterate 4 refine a_op ?_
    refine a_op (hs := by (simp only [push_cast, e1] <;> rfl)) ?_
    refine a_op ?_
    refine a_go ?_
    refine a_go ?_
    refine a_go ?_
    refine a_go ?_
    refine a_go ?_
    refine a_go ?_
    refine a_go ?_
    refine a_go (hs := by (simp only [push_cast, e2] <;> rfl)) ?_
    refine a_op ?_
    refine a_op ?_
    refine a_go ?_
    refine a_go ?_
    refine a_go ?_
    refine a_go ?_
    refine a_go ?_
    refine a_go (hs := by (simp only [push_cast, e3] <;> rfl)) ?_
    refine a_op ?_
    refine a_op ?_
    refine a_go ?_
    refine a_go ?_
    refine a_go ?_
    refine a_go ?_
    refine a_go ?_
    refine a_go ?_
    refine a_callgo [] false (derive_good Γ a b c (-1 - (y.toNat : Int)) (by omega) (by omega) (by omega)) ?_
    refine a_go (hs := by (simp only [push_cast, e4] <;> rfl)) ?_
    refine a_op ?_
    refine a_op ?_
    refine a_go ?_
    refine a_go ?_
    refine a_go ?_
    refine a_go ?_
    refine a_go ?_
    refine a_go ?_
    refine a_callgo [] false (derive_good Γ a b c (8161 + (y.toNat : Int)) (by omega) (by omega) (by omega)) ?_
    refine a_go (hs := by (simp only [push_cast, e5] <;> rfl)) ?_
    refine a_op ?_
    refine a_op ?_
    refine a_callgo [] false (awake_good Γ) ?_
    refine a_op ?_
    refine a_op ?_
    refine s_nil (r_false ?_)
    refine q_next ?_
    refine k_ret ?_
    refine ⟨.inr rfl, a_ret [] (by rw [results7]) ?_ ?_ ?_⟩ <;> simp [-List.map_set, -List.map_replicate, -List.reduceReplicate, -List.map_map, -List.map_drop, -List.map_take, num, bol, txt, w8, w16, w32, w64, lst, cls, rowO, boxO, List.take_of_length_le]

end Go.Proofs.Try
