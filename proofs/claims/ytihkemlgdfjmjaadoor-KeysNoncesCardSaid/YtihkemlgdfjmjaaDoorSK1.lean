import Derived.Test.YtihkemlgdfjmjaaDoorSK0
set_option maxHeartbeats 4000000
set_option maxRecDepth 100000
set_option linter.unusedVariables false
set_option linter.unusedSimpArgs false
namespace Go.Proofs.Tryd
open Go Go.Ot
attribute [local irreducible] wpK wpS seqK blockK loopF regK meetK OpSpec Le
theorem dig_good (Γ : Gl) (n : Int) (h0 : -9223372036854775808 ≤ n) (h1 : n ≤ 9223372036854775807) : Go.Ot.Good Γ prog 17 [.t (num n)] [] (.t (txt (Lib.itoa n))) [] [] := by
  refine a_body F.mix func17 (by rfl) ntmps17 ?_
  refine k_seq ?_
  refine k_region rfl ?_
  refine a_op ?_
  refine s_nil (r_false ?_)
  refine q_next ?_
  refine k_seq ?_
  refine k_region rfl ?_
  rcases (show (∃ k : Nat, n = (k : Int)) ∨ (∃ k : Nat, n = -(k : Int) ∧ 1 ≤ k) from (Int.lt_or_le n 0).elim (fun h => .inr ⟨n.natAbs, by omega, by omega⟩) (fun h => .inl ⟨n.toNat, by omega⟩)) with ⟨k, rfl⟩ | ⟨k, rfl, hk1⟩
  · skip
    refine a_op ?_
    refine a_op (hs := by (simp (disch := omega) only [push_cast, wrapu8, wrapu64] <;> rfl)) ?_
    refine a_op ?_
    refine a_op ?_
    refine s_nil (r_false ?_)
    refine q_next ?_
    refine k_seq ?_
    refine k_seq ?_
    refine k_region rfl ?_
    refine a_op ?_
    refine a_op ?_
    refine s_nil (r_false ?_)
    refine q_next ?_
    refine a_false ?_
    refine k_skip ?_
    refine q_next ?_
    refine k_seq ?_
    refine k_block ?_
    refine k_loopF (fun sl L (q : Nat × List UInt8) => ⟨setAll (setBad sl [5, 6, 7, 8, 9, 10, 11, 12, 13, 14, 15, 16, 17, 18, 19, 20, 21, 22]) [(3, .t (.v (.int .u64 (q.1 : Int)))), (4, .t (txt q.2))], Go.Ot.look (L)⟩) (fun q => Lib.decDigits q.1 ++ q.2 = Lib.decDigits k ∧ 2 * q.2.length + q.1 ≤ k) (fun q => q.1) ((k, [])) (a_le ?_) ?_ ?_
    · refine le_same ?_ ?_ ?_ <;> simp [-List.map_set, -List.map_replicate, -List.reduceReplicate, -List.map_map, -List.map_drop, -List.map_take, num, bol, txt, w8, w16, w32, w64, lst, cls, rowO, boxO, List.take_of_length_le]
    · exact ⟨by simp, by simp⟩
    · rintro ⟨u, s⟩ ⟨hu1, hu2⟩; simp only at hu1 hu2
      refine a_st ?_
      refine k_seq ?_
      refine k_seq ?_
      refine k_region rfl ?_
      refine a_op ?_
      refine a_op ?_
      refine s_nil (r_false ?_)
      refine q_next ?_
      refine a_if (fun hc1 => ?_) (fun hc1 => ?_)
      · (try simp only [Bool.and_eq_true, Bool.or_eq_true, Bool.or_eq_false_iff, Bool.not_eq_true', Bool.not_eq_false', dec_t, dec_f, Bool.and_eq_false_imp, beq_iff_eq, beq_eq_false_iff_ne, ne_eq] at hc1)
        refine k_skip ?_
        refine q_next ?_
        refine k_block ?_
        refine k_seq ?_
        refine k_region rfl ?_
        iterate 3 refine a_op ?_
        refine a_cv8 ?_
        refine a_op ?_
        first | refine a_text ?_ | refine a_texts ?_
        iterate 3 refine a_op ?_
        refine s_nil (r_false ?_)
        refine q_next ?_
        refine k_region rfl ?_
        iterate 3 refine a_op ?_
        refine s_nil (r_false ?_)
        refine q_block (q_loopF ((u / 10, UInt8.ofInt (48 + (u : Int) % 10) :: s)) (a_le ?_) ?_ ?_)
        · refine le_same ?_ ?_ ?_ <;> simp [-List.map_set, -List.map_replicate, -List.reduceReplicate, -List.map_map, -List.map_drop, -List.map_take, num, bol, txt, w8, w16, w32, w64, lst, cls, rowO, boxO, List.take_of_length_le]
        · exact ⟨by rw [dig_next (by omega)]; exact hu1, by simp only [List.length_cons]; omega⟩
        · simp only []; omega
      · (try simp only [Bool.and_eq_true, Bool.or_eq_true, Bool.or_eq_false_iff, Bool.not_eq_true', Bool.not_eq_false', dec_t, dec_f, Bool.and_eq_false_imp, beq_iff_eq, beq_eq_false_iff_ne, ne_eq] at hc1)
        refine k_exit ?_
        refine q_seq_exit (q_loopF_exit (q_block_exit (q_next ?_)))
        refine k_seq ?_
        refine k_region rfl ?_
        refine a_op ?_
        refine a_op ?_
        refine a_cv8 ?_
        refine a_op ?_
        first | refine a_text ?_ | refine a_texts ?_
        iterate 3 refine a_op ?_
        have hL := congrArg List.length hu1
        rw [Lib.decDigits, dif_pos (by omega : u < 10)] at hL
        simp only [List.length_append, List.length_cons, List.length_nil] at hL
        rw [dig_last (by omega), hu1]
        refine s_nil (r_false ?_)
        refine q_next ?_
        refine k_seq ?_
        refine k_seq ?_
        refine k_region rfl ?_
        refine a_op ?_
        refine a_op ?_
        refine s_nil (r_false ?_)
        refine q_next ?_
        refine a_false ?_
        refine k_skip ?_
        refine q_next ?_
        refine k_seq ?_
        refine k_region rfl ?_
        refine a_op ?_
        refine a_op ?_
        refine s_nil (r_false ?_)
        refine q_next ?_
        refine k_ret ?_
        refine ⟨.inr rfl, a_ret [] (by rw [results17]) ?_ ?_ ?_⟩ <;> simp [-List.map_set, -List.map_replicate, -List.reduceReplicate, -List.map_map, -List.map_drop, -List.map_take, num, bol, txt, w8, w16, w32, w64, lst, cls, rowO, boxO, List.take_of_length_le, itoa_pos]
  · skip
    refine a_op ?_
    refine a_op (hs := by (simp (disch := omega) only [push_cast, wrapu8, wrap_neg] <;> rfl)) ?_
    refine a_op ?_
    refine a_op ?_
    refine s_nil (r_false ?_)
    refine q_next ?_
    refine k_seq ?_
    refine k_seq ?_
    refine k_region rfl ?_
    refine a_op ?_
    refine a_op ?_
    refine s_nil (r_false ?_)
    refine q_next ?_
    refine a_if (fun hc0 => ?_) (fun hc0 => ?_)
    · (try simp only [Bool.and_eq_true, Bool.or_eq_true, Bool.or_eq_false_iff, Bool.not_eq_true', Bool.not_eq_false', dec_t, dec_f, Bool.and_eq_false_imp, beq_iff_eq, beq_eq_false_iff_ne, ne_eq] at hc0)
      refine k_region rfl ?_
      refine a_op ?_
      refine a_op (hs := by (simp (disch := omega) only [push_cast, wrapu8, wrap_nn] <;> rfl)) ?_
      refine a_op ?_
      refine s_nil (r_false ?_)
      refine q_next ?_
      refine k_seq ?_
      refine k_block ?_
      refine k_loopF (fun sl L (q : Nat × List UInt8) => ⟨setAll (setBad sl [5, 6, 7, 8, 9, 10, 11, 12, 13, 14, 15, 16, 17, 18, 19, 20, 21, 22]) [(3, .t (.v (.int .u64 (q.1 : Int)))), (4, .t (txt q.2))], Go.Ot.look (L)⟩) (fun q => Lib.decDigits q.1 ++ q.2 = Lib.decDigits k ∧ 2 * q.2.length + q.1 ≤ k) (fun q => q.1) ((k, [])) (a_le ?_) ?_ ?_
      · refine le_same ?_ ?_ ?_ <;> simp [-List.map_set, -List.map_replicate, -List.reduceReplicate, -List.map_map, -List.map_drop, -List.map_take, num, bol, txt, w8, w16, w32, w64, lst, cls, rowO, boxO, List.take_of_length_le]
      · exact ⟨by simp, by simp⟩
      · rintro ⟨u, s⟩ ⟨hu1, hu2⟩; simp only at hu1 hu2
        refine a_st ?_
        refine k_seq ?_
        refine k_seq ?_
        refine k_region rfl ?_
        refine a_op ?_
        refine a_op ?_
        refine s_nil (r_false ?_)
        refine q_next ?_
        refine a_if (fun hc1 => ?_) (fun hc1 => ?_)
        · (try simp only [Bool.and_eq_true, Bool.or_eq_true, Bool.or_eq_false_iff, Bool.not_eq_true', Bool.not_eq_false', dec_t, dec_f, Bool.and_eq_false_imp, beq_iff_eq, beq_eq_false_iff_ne, ne_eq] at hc1)
          refine k_skip ?_
          refine q_next ?_
          refine k_block ?_
          refine k_seq ?_
          refine k_region rfl ?_
          iterate 3 refine a_op ?_
          refine a_cv8 ?_
          refine a_op ?_
          first | refine a_text ?_ | refine a_texts ?_
          iterate 3 refine a_op ?_
          refine s_nil (r_false ?_)
          refine q_next ?_
          refine k_region rfl ?_
          iterate 3 refine a_op ?_
          refine s_nil (r_false ?_)
          refine q_block (q_loopF ((u / 10, UInt8.ofInt (48 + (u : Int) % 10) :: s)) (a_le ?_) ?_ ?_)
          · refine le_same ?_ ?_ ?_ <;> simp [-List.map_set, -List.map_replicate, -List.reduceReplicate, -List.map_map, -List.map_drop, -List.map_take, num, bol, txt, w8, w16, w32, w64, lst, cls, rowO, boxO, List.take_of_length_le]
          · exact ⟨by rw [dig_next (by omega)]; exact hu1, by simp only [List.length_cons]; omega⟩
          · simp only []; omega
        · (try simp only [Bool.and_eq_true, Bool.or_eq_true, Bool.or_eq_false_iff, Bool.not_eq_true', Bool.not_eq_false', dec_t, dec_f, Bool.and_eq_false_imp, beq_iff_eq, beq_eq_false_iff_ne, ne_eq] at hc1)
          refine k_exit ?_
          refine q_seq_exit (q_loopF_exit (q_block_exit (q_next ?_)))
          refine k_seq ?_
          refine k_region rfl ?_
          refine a_op ?_
          refine a_op ?_
          refine a_cv8 ?_
          refine a_op ?_
          first | refine a_text ?_ | refine a_texts ?_
          iterate 3 refine a_op ?_
          have hL := congrArg List.length hu1
          rw [Lib.decDigits, dif_pos (by omega : u < 10)] at hL
          simp only [List.length_append, List.length_cons, List.length_nil] at hL
          rw [dig_last (by omega), hu1]
          refine s_nil (r_false ?_)
          refine q_next ?_
          refine k_seq ?_
          refine k_seq ?_
          refine k_region rfl ?_
          refine a_op ?_
          refine a_op ?_
          refine s_nil (r_false ?_)
          refine q_next ?_
          refine a_if (fun hc2 => ?_) (fun hc2 => ?_)
          · (try simp only [Bool.and_eq_true, Bool.or_eq_true, Bool.or_eq_false_iff, Bool.not_eq_true', Bool.not_eq_false', dec_t, dec_f, Bool.and_eq_false_imp, beq_iff_eq, beq_eq_false_iff_ne, ne_eq] at hc2)
            refine k_seq ?_
            refine k_region rfl ?_
            iterate 3 refine a_op ?_
            refine s_nil (r_false ?_)
            refine q_next ?_
            refine k_ret ?_
            refine q_seq_ret ?_
            refine ⟨.inr rfl, a_ret [] (by rw [results17]) ?_ ?_ ?_⟩ <;> simp [-List.map_set, -List.map_replicate, -List.reduceReplicate, -List.map_map, -List.map_drop, -List.map_take, num, bol, txt, w8, w16, w32, w64, lst, cls, rowO, boxO, List.take_of_length_le, itoa_neg k hk1]
          · (try simp only [Bool.and_eq_true, Bool.or_eq_true, Bool.or_eq_false_iff, Bool.not_eq_true', Bool.not_eq_false', dec_t, dec_f, Bool.and_eq_false_imp, beq_iff_eq, beq_eq_false_iff_ne, ne_eq] at hc2)
            exfalso; omega
    · (try simp only [Bool.and_eq_true, Bool.or_eq_true, Bool.or_eq_false_iff, Bool.not_eq_true', Bool.not_eq_false', dec_t, dec_f, Bool.and_eq_false_imp, beq_iff_eq, beq_eq_false_iff_ne, ne_eq] at hc0)
      exfalso; omega

end Go.Proofs.Tryd
