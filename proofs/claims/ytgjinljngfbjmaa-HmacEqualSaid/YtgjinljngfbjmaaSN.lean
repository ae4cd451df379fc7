import Derived.Test.YtgjinljngfbjmaaSM
set_option maxHeartbeats 4000000
set_option maxRecDepth 100000
set_option linter.unusedVariables false
set_option linter.unusedSimpArgs false
namespace Go.Proofs.Try
open Go Go.Ot
attribute [local irreducible] wpK wpS seqK blockK loopF regK meetK OpSpec Le sched wordTo rnds addTo rotr chunks takeB be64 outB sha padB xorTo keyB hmacB orTo keyOf

theorem mod_nat (i n : Nat) (h : 0 < n) : ∃ m : Nat, (i : Int) % (n : Int) = (m : Int) ∧ m < n ∧ m = i % n := ⟨i % n, by simp, Nat.mod_lt _ h, rfl⟩
theorem u8_zero {b : UInt8} (h : b.toNat = 0) : b = 0 := UInt8.toNat_inj.1 (by rw [h]; rfl)
theorem u8_pos {b : UInt8} (h : 0 < b.toNat) : b ≠ 0 := by rintro rfl; simp at h
theorem beq_nil {a : List UInt8} (h : 0 < a.length) : (a == []) = false := by cases a with | nil => simp at h | cons x a => rfl
theorem beq_nil' {a : List UInt8} (h : a.length = 0) : (a == []) = true := by rw [List.eq_nil_of_length_eq_zero h]; rfl

theorem equal_self_good (Γ : Gl) (a : List UInt8) (ha : a.length ≤ 1000000000) : Go.Ot.Good Γ prog 12 [.t (txt a), .t (txt a)] [] (.t (bol true)) [] [] := by
  have h := equal_good Γ a a ha ha
  rwa [show decide (a = a) = true from decide_eq_true rfl] at h
theorem equal_ne_good (Γ : Gl) (a b : List UInt8) (ha : a.length ≤ 1000000000) (hb : b.length ≤ 1000000000) (hab : a ≠ b) : Go.Ot.Good Γ prog 12 [.t (txt a), .t (txt b)] [] (.t (bol false)) [] [] := by
  have h := equal_good Γ a b ha hb
  rwa [show decide (a = b) = false from decide_eq_false hab] at h
theorem hequal_good (Γ : Gl) (a b : List UInt8) (at' : UInt16) (b' : UInt8) (hal : a.length ≤ maxLen) (hbl : b.length ≤ maxLen) : Go.Ot.Good Γ prog 5 [.t (txt a), .t (txt b), .t (w16 at'), .t (w8 b')] [] (.t (bol true)) [] [] := by
  have h16 := UInt16.toNat_lt at'
  have h8 := UInt8.toNat_lt b'
  refine a_body F.mix func5 (by rfl) ntmps5 ?_
  refine k_seq ?_
  refine k_region rfl ?_
  refine a_op ?_
  refine s_nil (r_false ?_)
  refine q_next ?_
  refine k_seq ?_
  refine k_seq ?_
  refine k_region rfl ?_
  iterate 4 refine a_op ?_
  first | refine a_go ?_ | refine a_no ?_ | refine a_may ?_
  first | refine a_go ?_ | refine a_no ?_ | refine a_may ?_
  first | refine a_go ?_ | refine a_no ?_ | refine a_may ?_
  refine a_op ?_
  refine s_nil (r_false ?_)
  refine q_next ?_
  refine a_if (fun hc0 => ?_) (fun hc0 => ?_)
  · (try simp only [Bool.and_eq_true, Bool.or_eq_true, Bool.or_eq_false_iff, Bool.not_eq_true', Bool.not_eq_false', dec_t, dec_f, Bool.and_eq_false_imp, beq_iff_eq, beq_eq_false_iff_ne, ne_eq] at hc0)
    refine k_seq ?_
    refine k_region rfl ?_
    refine a_call [] false (awake_good Γ) ?_
    refine a_op ?_
    refine s_nil (r_false ?_)
    refine q_next ?_
    refine k_ret ?_
    refine q_seq_ret ?_
    refine ⟨.inr rfl, a_ret [] (by rw [results5]) ?_ ?_ ?_⟩ <;> simp [-List.map_set, -List.map_replicate, -List.reduceReplicate, -List.map_map, -List.map_drop, -List.map_take, num, bol, txt, w8, w16, w32, w64, lst, cls, rowO, boxO, List.take_of_length_le]
  · (try simp only [Bool.and_eq_true, Bool.or_eq_true, Bool.or_eq_false_iff, Bool.not_eq_true', Bool.not_eq_false', dec_t, dec_f, Bool.and_eq_false_imp, beq_iff_eq, beq_eq_false_iff_ne, ne_eq] at hc0)
    refine k_skip ?_
    refine q_next ?_
    refine k_seq ?_
    refine k_region rfl ?_
    iterate 3 refine a_op ?_
    refine s_nil (r_false ?_)
    refine q_next ?_
    refine k_seq ?_
    refine k_seq ?_
    refine k_region rfl ?_
    iterate 3 refine a_op ?_
    refine s_nil (r_false ?_)
    refine q_next ?_
    refine a_if (fun hc1 => ?_) (fun hc1 => ?_)
    · (try simp only [Bool.and_eq_true, Bool.or_eq_true, Bool.or_eq_false_iff, Bool.not_eq_true', Bool.not_eq_false', dec_t, dec_f, Bool.and_eq_false_imp, beq_iff_eq, beq_eq_false_iff_ne, ne_eq] at hc1)
      have hpos : 0 < a.length := by omega
      have hemp := beq_nil hpos
      obtain ⟨m, hm, hlt, hmi⟩ := mod_nat at'.toNat a.length hpos
      refine k_region rfl ?_
      iterate 5 refine a_op ?_
      refine a_op (hs := by (simp (disch := omega) only [push_cast, hm] <;> rfl)) ?_
      iterate 6 refine a_op ?_
      refine s_nil (r_false ?_)
      refine q_next ?_
      refine k_seq ?_
      refine k_region rfl ?_
      have key : (b'.toNat = 0 ∧ a.set m (a.getD m 0 ^^^ b') = a) ∨ (0 < b'.toNat ∧ a ≠ a.set m (a.getD m 0 ^^^ b')) := by
        rcases Nat.eq_zero_or_pos b'.toNat with h | h
        · exact .inl ⟨h, by rw [u8_zero h]; exact set_xor0⟩
        · exact .inr ⟨h, set_ne hlt (u8_pos h)⟩
      rcases key with ⟨hb0, hset⟩ | ⟨hb0, hset⟩
      · skip
        refine a_op ?_
        refine a_op ?_
        refine a_call [] false (equal_good Γ a b (by omega) (by omega)) ?_
        iterate 3 refine a_op ?_
        refine a_op (hs := by (simp only [push_cast, dec_beq] <;> rfl)) ?_
        refine a_op ?_
        first | refine a_go ?_ | refine a_no ?_ | refine a_may ?_
        first | refine a_go ?_ | refine a_no ?_ | refine a_may ?_
        refine a_callgo [] false (equal_self_good Γ a (by omega)) ?_
        refine a_op ?_
        refine a_op ?_
        first | refine a_go ?_ | refine a_no ?_ | refine a_may ?_
        first | refine a_go ?_ | refine a_no ?_ | refine a_may ?_
        first | refine a_textgo ?_ | refine a_textsgo ?_
        rw [hset]
        refine a_callgo [] false (equal_self_good Γ a (by omega)) ?_
        first | refine a_go ?_ | refine a_no ?_ | refine a_may ?_
        first | refine a_go ?_ | refine a_no ?_ | refine a_may ?_
        first | refine a_go ?_ | refine a_no ?_ | refine a_may ?_
        refine a_no ?_
        refine a_no ?_
        first | refine a_go ?_ | refine a_no ?_ | refine a_may ?_
        first | refine a_go ?_ | refine a_no ?_ | refine a_may ?_
        refine a_op ?_
        refine a_op ?_
        first | refine a_go ?_ | refine a_no ?_ | refine a_may ?_
        first | refine a_go ?_ | refine a_no ?_ | refine a_may ?_
        first | refine a_go ?_ | refine a_no ?_ | refine a_may ?_
        refine a_callgo [] false (equal_ne_good Γ a (a ++ [120]) (by omega) (by simp; omega) (ne_snoc a 120)) ?_
        first | refine a_go ?_ | refine a_no ?_ | refine a_may ?_
        refine a_op ?_
        refine a_op ?_
        refine a_callgo [] false (awake_good Γ) ?_
        refine a_op ?_
        refine a_op ?_
        refine s_nil (r_false ?_)
        refine q_next ?_
        refine k_ret ?_
        refine ⟨.inr rfl, a_ret [] (by rw [results5]) ?_ ?_ ?_⟩ <;> simp [-List.map_set, -List.map_replicate, -List.reduceReplicate, -List.map_map, -List.map_drop, -List.map_take, num, bol, txt, w8, w16, w32, w64, lst, cls, rowO, boxO, List.take_of_length_le]
      · skip
        refine a_op ?_
        refine a_op ?_
        refine a_call [] false (equal_good Γ a b (by omega) (by omega)) ?_
        iterate 3 refine a_op ?_
        refine a_op (hs := by (simp only [push_cast, dec_beq] <;> rfl)) ?_
        refine a_op ?_
        first | refine a_go ?_ | refine a_no ?_ | refine a_may ?_
        first | refine a_go ?_ | refine a_no ?_ | refine a_may ?_
        refine a_callgo [] false (equal_self_good Γ a (by omega)) ?_
        refine a_op ?_
        refine a_op ?_
        first | refine a_go ?_ | refine a_no ?_ | refine a_may ?_
        first | refine a_go ?_ | refine a_no ?_ | refine a_may ?_
        first | refine a_textgo ?_ | refine a_textsgo ?_
        skip
        refine a_callgo [] false (equal_ne_good Γ a (a.set m (a.getD m 0 ^^^ b')) (by omega) (by rw [List.length_set]; omega) hset) ?_
        first | refine a_go ?_ | refine a_no ?_ | refine a_may ?_
        first | refine a_go ?_ | refine a_no ?_ | refine a_may ?_
        first | refine a_go ?_ | refine a_no ?_ | refine a_may ?_
        first | refine a_go ?_ | refine a_no ?_ | refine a_may ?_
        refine a_go (hs := by (simp only [push_cast, hemp] <;> rfl)) ?_
        first | refine a_go ?_ | refine a_no ?_ | refine a_may ?_
        first | refine a_go ?_ | refine a_no ?_ | refine a_may ?_
        refine a_op ?_
        refine a_op ?_
        first | refine a_go ?_ | refine a_no ?_ | refine a_may ?_
        first | refine a_go ?_ | refine a_no ?_ | refine a_may ?_
        first | refine a_go ?_ | refine a_no ?_ | refine a_may ?_
        refine a_callgo [] false (equal_ne_good Γ a (a ++ [120]) (by omega) (by simp; omega) (ne_snoc a 120)) ?_
        first | refine a_go ?_ | refine a_no ?_ | refine a_may ?_
        refine a_op ?_
        refine a_op ?_
        refine a_callgo [] false (awake_good Γ) ?_
        refine a_op ?_
        refine a_op ?_
        refine s_nil (r_false ?_)
        refine q_next ?_
        refine k_ret ?_
        refine ⟨.inr rfl, a_ret [] (by rw [results5]) ?_ ?_ ?_⟩ <;> simp [-List.map_set, -List.map_replicate, -List.reduceReplicate, -List.map_map, -List.map_drop, -List.map_take, num, bol, txt, w8, w16, w32, w64, lst, cls, rowO, boxO, List.take_of_length_le]
    · (try simp only [Bool.and_eq_true, Bool.or_eq_true, Bool.or_eq_false_iff, Bool.not_eq_true', Bool.not_eq_false', dec_t, dec_f, Bool.and_eq_false_imp, beq_iff_eq, beq_eq_false_iff_ne, ne_eq] at hc1)
      have hemp := beq_nil' (a := a) (by omega)
      refine k_skip ?_
      refine q_next ?_
      refine k_seq ?_
      refine k_region rfl ?_
      rcases Nat.eq_zero_or_pos b'.toNat with hb0 | hb0
      · skip
        refine a_op ?_
        refine a_op ?_
        refine a_call [] false (equal_good Γ a b (by omega) (by omega)) ?_
        iterate 3 refine a_op ?_
        refine a_op (hs := by (simp only [push_cast, dec_beq] <;> rfl)) ?_
        refine a_op ?_
        first | refine a_go ?_ | refine a_no ?_ | refine a_may ?_
        first | refine a_go ?_ | refine a_no ?_ | refine a_may ?_
        refine a_callgo [] false (equal_self_good Γ a (by omega)) ?_
        refine a_op ?_
        refine a_op ?_
        first | refine a_go ?_ | refine a_no ?_ | refine a_may ?_
        first | refine a_go ?_ | refine a_no ?_ | refine a_may ?_
        first | refine a_textgo ?_ | refine a_textsgo ?_
        skip
        refine a_callgo [] false (equal_self_good Γ a (by omega)) ?_
        first | refine a_go ?_ | refine a_no ?_ | refine a_may ?_
        first | refine a_go ?_ | refine a_no ?_ | refine a_may ?_
        first | refine a_go ?_ | refine a_no ?_ | refine a_may ?_
        refine a_no ?_
        refine a_no ?_
        first | refine a_go ?_ | refine a_no ?_ | refine a_may ?_
        first | refine a_go ?_ | refine a_no ?_ | refine a_may ?_
        refine a_op ?_
        refine a_op ?_
        first | refine a_go ?_ | refine a_no ?_ | refine a_may ?_
        first | refine a_go ?_ | refine a_no ?_ | refine a_may ?_
        first | refine a_go ?_ | refine a_no ?_ | refine a_may ?_
        refine a_callgo [] false (equal_ne_good Γ a (a ++ [120]) (by omega) (by simp; omega) (ne_snoc a 120)) ?_
        first | refine a_go ?_ | refine a_no ?_ | refine a_may ?_
        refine a_op ?_
        refine a_op ?_
        refine a_callgo [] false (awake_good Γ) ?_
        refine a_op ?_
        refine a_op ?_
        refine s_nil (r_false ?_)
        refine q_next ?_
        refine k_ret ?_
        refine ⟨.inr rfl, a_ret [] (by rw [results5]) ?_ ?_ ?_⟩ <;> simp [-List.map_set, -List.map_replicate, -List.reduceReplicate, -List.map_map, -List.map_drop, -List.map_take, num, bol, txt, w8, w16, w32, w64, lst, cls, rowO, boxO, List.take_of_length_le]
      · skip
        refine a_op ?_
        refine a_op ?_
        refine a_call [] false (equal_good Γ a b (by omega) (by omega)) ?_
        iterate 3 refine a_op ?_
        refine a_op (hs := by (simp only [push_cast, dec_beq] <;> rfl)) ?_
        refine a_op ?_
        first | refine a_go ?_ | refine a_no ?_ | refine a_may ?_
        first | refine a_go ?_ | refine a_no ?_ | refine a_may ?_
        refine a_callgo [] false (equal_self_good Γ a (by omega)) ?_
        refine a_op ?_
        refine a_op ?_
        first | refine a_go ?_ | refine a_no ?_ | refine a_may ?_
        first | refine a_go ?_ | refine a_no ?_ | refine a_may ?_
        first | refine a_textgo ?_ | refine a_textsgo ?_
        skip
        refine a_callgo [] false (equal_self_good Γ a (by omega)) ?_
        first | refine a_go ?_ | refine a_no ?_ | refine a_may ?_
        first | refine a_go ?_ | refine a_no ?_ | refine a_may ?_
        first | refine a_go ?_ | refine a_no ?_ | refine a_may ?_
        first | refine a_go ?_ | refine a_no ?_ | refine a_may ?_
        refine a_go (hs := by (simp only [push_cast, hemp] <;> rfl)) ?_
        first | refine a_go ?_ | refine a_no ?_ | refine a_may ?_
        first | refine a_go ?_ | refine a_no ?_ | refine a_may ?_
        refine a_op ?_
        refine a_op ?_
        first | refine a_go ?_ | refine a_no ?_ | refine a_may ?_
        first | refine a_go ?_ | refine a_no ?_ | refine a_may ?_
        first | refine a_go ?_ | refine a_no ?_ | refine a_may ?_
        refine a_callgo [] false (equal_ne_good Γ a (a ++ [120]) (by omega) (by simp; omega) (ne_snoc a 120)) ?_
        first | refine a_go ?_ | refine a_no ?_ | refine a_may ?_
        refine a_op ?_
        refine a_op ?_
        refine a_callgo [] false (awake_good Γ) ?_
        refine a_op ?_
        refine a_op ?_
        refine s_nil (r_false ?_)
        refine q_next ?_
        refine k_ret ?_
        refine ⟨.inr rfl, a_ret [] (by rw [results5]) ?_ ?_ ?_⟩ <;> simp [-List.map_set, -List.map_replicate, -List.reduceReplicate, -List.map_map, -List.map_drop, -List.map_take, num, bol, txt, w8, w16, w32, w64, lst, cls, rowO, boxO, List.take_of_length_le]

end Go.Proofs.Try
