import Derived.Test.YtgjinljngfbjmaaSX
set_option maxHeartbeats 4000000
set_option maxRecDepth 100000
set_option linter.unusedVariables false
set_option linter.unusedSimpArgs false
namespace Go.Proofs.Try
open Go Go.Ot
theorem k1 : (hmacB (List.replicate 20 11) ([[72, 105, 32, 84, 104, 101, 114, 101]] : List (List UInt8)).flatten).take 8 = [176, 52, 76, 97, 216, 219, 56, 83] := by decide +kernel
theorem k2 : (hmacB (List.replicate 131 170) ([[84, 101, 115, 116, 32, 85, 115, 105, 110, 103, 32, 76, 97, 114, 103, 101, 114, 32, 84, 104, 97, 110, 32, 66, 108, 111, 99, 107, 45, 83, 105, 122, 101, 32, 75, 101, 121, 32, 45, 32, 72, 97, 115, 104, 32, 75, 101, 121, 32, 70, 105, 114, 115, 116]] : List (List UInt8)).flatten).take 8 = [96, 228, 49, 89, 30, 224, 182, 127] := by decide +kernel
theorem k3 : (derX [0, 1, 2, 3, 4, 5, 6, 7, 8, 9, 10, 11, 12] ((List.replicate 20 11) ++ [11, 11]) [240, 241, 242, 243, 244, 245, 246, 247, 248, 249] 42).take 8 = [60, 178, 95, 37, 250, 172, 213, 122] := by decide +kernel
theorem k4 : (derX [0, 1, 2, 3, 4, 5, 6, 7, 8, 9, 10, 11, 12] ((List.replicate 20 11) ++ [11, 11]) [240, 241, 242, 243, 244, 245, 246, 247, 248, 249] 42).length = 42 := derX_len _ _ _ 42 (by decide)
attribute [local irreducible] wpK wpS seqK blockK loopF regK meetK OpSpec Le sched wordTo rnds addTo rotr chunks takeB be64 outB sha padB xorTo keyB hmacB orTo keyOf hk hkAll derB derX
theorem known_good (Γ : Gl) (x : UInt8) : Go.Ot.Good Γ prog 8 [.t (w8 x)] [] (.t (bol true)) [] [] := by
  refine a_body F.mix func8 (by rfl) ntmps8 ?_
  refine k_seq ?_
  refine k_region rfl ?_
  refine a_op ?_
  refine s_nil (r_false ?_)
  refine q_next ?_
  refine k_seq ?_
  refine k_region rfl ?_
  refine a_op ?_
  refine s_nil (r_false ?_)
  refine q_next ?_
  refine k_seq ?_
  refine k_seq ?_
  refine k_region rfl ?_
  refine a_op ?_
  refine s_nil (r_false ?_)
  refine q_next ?_
  refine k_block ?_
  refine k_loopF (fun sl L (i : Nat) => ⟨setAll (setBad sl [10, 11, 12, 13, 14, 15]) [(3, .t (txt (List.replicate i 11))), (4, .t (num i))], Go.Ot.look (L)⟩) (fun i => i ≤ 20) (fun i => 20 - i) (0) (a_le ?_) ?_ ?_
  · refine le_same ?_ ?_ ?_ <;> simp [-List.map_set, -List.map_replicate, -List.reduceReplicate, -List.map_map, -List.map_drop, -List.map_take, num, bol, txt, w8, w16, w32, w64, lst, cls, rowO, boxO, List.take_of_length_le, List.replicate_zero]
  · (first | omega | simp)
  · intro i hi
    refine a_st ?_
    refine k_seq ?_
    refine k_seq ?_
    refine k_region rfl ?_
    refine a_op ?_
    refine a_op ?_
    refine s_nil (r_false ?_)
    refine q_next ?_
    refine a_if (fun hc0 => ?_) (fun hc0 => ?_)
    · (try simp only [Bool.and_eq_true, Bool.or_eq_true, Bool.or_eq_false_iff, Bool.not_eq_true', Bool.not_eq_false', dec_t, dec_f, Bool.and_eq_false_imp, beq_iff_eq, beq_eq_false_iff_ne, ne_eq] at hc0)
      refine k_skip ?_
      refine q_next ?_
      refine k_seq ?_
      refine k_block ?_
      refine k_region rfl ?_
      iterate 3 refine a_op ?_
      refine s_nil (r_false ?_)
      refine q_block (q_next ?_)
      refine k_region rfl ?_
      iterate 3 refine a_op ?_
      refine s_nil (r_false ?_)
      refine q_loopF (i + 1) (a_le ?_) ?_ ?_
      · refine le_same ?_ ?_ ?_ <;> simp [-List.map_set, -List.map_replicate, -List.reduceReplicate, -List.map_map, -List.map_drop, -List.map_take, num, bol, txt, w8, w16, w32, w64, lst, cls, rowO, boxO, List.take_of_length_le, List.replicate_succ']
      · (first | omega | (simp_all <;> omega))
      · (first | omega | (simp only []; omega))
    · (try simp only [Bool.and_eq_true, Bool.or_eq_true, Bool.or_eq_false_iff, Bool.not_eq_true', Bool.not_eq_false', dec_t, dec_f, Bool.and_eq_false_imp, beq_iff_eq, beq_eq_false_iff_ne, ne_eq] at hc0)
      refine k_exit ?_
      refine q_seq_exit (q_loopF_exit (q_block_exit (q_next ?_)))
      refine k_seq ?_
      refine k_region rfl ?_
      refine a_op ?_
      refine s_nil (r_false ?_)
      refine q_next ?_
      refine k_seq ?_
      refine k_seq ?_
      refine k_region rfl ?_
      refine a_op ?_
      refine s_nil (r_false ?_)
      refine q_next ?_
      refine k_block ?_
      obtain rfl : i = 20 := by omega
      refine k_loopF (fun sl L (j : Nat) => ⟨setAll (setBad sl [4, 10, 11, 12, 13, 14, 15, 16, 17, 18, 19, 20, 21]) [(5, .t (txt (List.replicate j 170))), (6, .t (num j))], Go.Ot.look (L)⟩) (fun j => j ≤ 131) (fun j => 131 - j) (0) (a_le ?_) ?_ ?_
      · refine le_same ?_ ?_ ?_ <;> simp [-List.map_set, -List.map_replicate, -List.reduceReplicate, -List.map_map, -List.map_drop, -List.map_take, num, bol, txt, w8, w16, w32, w64, lst, cls, rowO, boxO, List.take_of_length_le, List.replicate_zero]
      · (first | omega | simp)
      · intro j hj
        refine a_st ?_
        refine k_seq ?_
        refine k_seq ?_
        refine k_region rfl ?_
        refine a_op ?_
        refine a_op ?_
        refine s_nil (r_false ?_)
        refine q_next ?_
        refine a_if (fun hc1 => ?_) (fun hc1 => ?_)
        · (try simp only [Bool.and_eq_true, Bool.or_eq_true, Bool.or_eq_false_iff, Bool.not_eq_true', Bool.not_eq_false', dec_t, dec_f, Bool.and_eq_false_imp, beq_iff_eq, beq_eq_false_iff_ne, ne_eq] at hc1)
          refine k_skip ?_
          refine q_next ?_
          refine k_seq ?_
          refine k_block ?_
          refine k_region rfl ?_
          iterate 3 refine a_op ?_
          refine s_nil (r_false ?_)
          refine q_block (q_next ?_)
          refine k_region rfl ?_
          iterate 3 refine a_op ?_
          refine s_nil (r_false ?_)
          refine q_loopF (j + 1) (a_le ?_) ?_ ?_
          · refine le_same ?_ ?_ ?_ <;> simp [-List.map_set, -List.map_replicate, -List.reduceReplicate, -List.map_map, -List.map_drop, -List.map_take, num, bol, txt, w8, w16, w32, w64, lst, cls, rowO, boxO, List.take_of_length_le, List.replicate_succ']
          · (first | omega | (simp_all <;> omega))
          · (first | omega | (simp only []; omega))
        · (try simp only [Bool.and_eq_true, Bool.or_eq_true, Bool.or_eq_false_iff, Bool.not_eq_true', Bool.not_eq_false', dec_t, dec_f, Bool.and_eq_false_imp, beq_iff_eq, beq_eq_false_iff_ne, ne_eq] at hc1)
          refine k_exit ?_
          refine q_seq_exit (q_loopF_exit (q_block_exit (q_next ?_)))
          refine k_seq ?_
          refine k_seq ?_
          refine k_region rfl ?_
          obtain rfl : j = 131 := by omega
          refine a_op ?_
          refine a_op ?_
          refine s_nil (r_false ?_)
          refine q_next ?_
          refine k_block ?_
          refine k_seq ?_
          refine k_region rfl ?_
          refine a_op ?_
          refine a_op ?_
          refine s_nil (r_false ?_)
          refine q_next ?_
          refine a_if (fun hc2 => ?_) (fun hc2 => ?_)
          · (try simp only [Bool.and_eq_true, Bool.or_eq_true, Bool.or_eq_false_iff, Bool.not_eq_true', Bool.not_eq_false', dec_t, dec_f, Bool.and_eq_false_imp, beq_iff_eq, beq_eq_false_iff_ne, ne_eq] at hc2)
            refine k_seq ?_
            refine k_region rfl ?_
            refine a_op ?_
            refine a_op ?_
            refine a_call [.r 13 1 0] false (mac_good Γ (List.replicate 20 11) [[72, 105, 32, 84, 104, 101, 114, 101]] (by decide) (by decide) (by decide)) ?_
            refine a_op ?_
            refine s_nil (r_false ?_)
            refine q_next ?_
            refine k_seq ?_
            refine k_region rfl ?_
            refine a_op ?_
            refine a_op ?_
            refine a_op (hs := by (simp only [push_cast, hmacB_len] <;> rfl)) ?_
            refine a_op ?_
            refine a_go ?_
            refine a_go ?_
            refine a_go (hs := by (simp only [push_cast, k1] <;> rfl)) ?_
            refine a_op ?_
            refine a_op ?_
            refine a_callgo [] false (awake_good Γ) ?_
            refine a_op ?_
            refine a_op ?_
            refine s_nil (r_false ?_)
            refine q_next ?_
            refine k_ret ?_
            refine q_block_ret (q_seq_ret ?_)
            refine ⟨.inr rfl, a_ret [] (by rw [results8]) ?_ ?_ ?_⟩ <;> simp [-List.map_set, -List.map_replicate, -List.reduceReplicate, -List.map_map, -List.map_drop, -List.map_take, num, bol, txt, w8, w16, w32, w64, lst, cls, rowO, boxO, List.take_of_length_le]
          · (try simp only [Bool.and_eq_true, Bool.or_eq_true, Bool.or_eq_false_iff, Bool.not_eq_true', Bool.not_eq_false', dec_t, dec_f, Bool.and_eq_false_imp, beq_iff_eq, beq_eq_false_iff_ne, ne_eq] at hc2)
            refine k_seq ?_
            refine k_region rfl ?_
            refine a_op ?_
            refine a_op ?_
            refine s_nil (r_false ?_)
            refine q_next ?_
            refine a_if (fun hc3 => ?_) (fun hc3 => ?_)
            · (try simp only [Bool.and_eq_true, Bool.or_eq_true, Bool.or_eq_false_iff, Bool.not_eq_true', Bool.not_eq_false', dec_t, dec_f, Bool.and_eq_false_imp, beq_iff_eq, beq_eq_false_iff_ne, ne_eq] at hc3)
              refine k_seq ?_
              refine k_region rfl ?_
              refine a_op ?_
              refine a_op ?_
              refine a_call [.r 16 1 0] false (mac_good Γ (List.replicate 131 170) [[84, 101, 115, 116, 32, 85, 115, 105, 110, 103, 32, 76, 97, 114, 103, 101, 114, 32, 84, 104, 97, 110, 32, 66, 108, 111, 99, 107, 45, 83, 105, 122, 101, 32, 75, 101, 121, 32, 45, 32, 72, 97, 115, 104, 32, 75, 101, 121, 32, 70, 105, 114, 115, 116]] (by decide) (by decide) (by decide)) ?_
              refine a_op ?_
              refine s_nil (r_false ?_)
              refine q_next ?_
              refine k_seq ?_
              refine k_region rfl ?_
              refine a_op ?_
              refine a_op ?_
              refine a_op (hs := by (simp only [push_cast, hmacB_len] <;> rfl)) ?_
              refine a_op ?_
              refine a_go ?_
              refine a_go ?_
              refine a_go (hs := by (simp only [push_cast, k2] <;> rfl)) ?_
              refine a_op ?_
              refine a_op ?_
              refine a_callgo [] false (awake_good Γ) ?_
              refine a_op ?_
              refine a_op ?_
              refine s_nil (r_false ?_)
              refine q_next ?_
              refine k_ret ?_
              refine q_block_ret (q_seq_ret ?_)
              refine ⟨.inr rfl, a_ret [] (by rw [results8]) ?_ ?_ ?_⟩ <;> simp [-List.map_set, -List.map_replicate, -List.reduceReplicate, -List.map_map, -List.map_drop, -List.map_take, num, bol, txt, w8, w16, w32, w64, lst, cls, rowO, boxO, List.take_of_length_le]
            · (try simp only [Bool.and_eq_true, Bool.or_eq_true, Bool.or_eq_false_iff, Bool.not_eq_true', Bool.not_eq_false', dec_t, dec_f, Bool.and_eq_false_imp, beq_iff_eq, beq_eq_false_iff_ne, ne_eq] at hc3)
              refine k_skip ?_
              refine q_block (q_next ?_)
              refine k_seq ?_
              refine k_region rfl ?_
              refine a_op ?_
              refine a_op ?_
              refine a_call [] false (derive_good Γ [0, 1, 2, 3, 4, 5, 6, 7, 8, 9, 10, 11, 12] ((List.replicate 20 11) ++ [11, 11]) [240, 241, 242, 243, 244, 245, 246, 247, 248, 249] 42 (by decide) (by decide) (by decide)) ?_
              refine a_op ?_
              refine s_nil (r_false ?_)
              refine q_next ?_
              refine k_seq ?_
              refine k_region rfl ?_
              have k5 : 8 ≤ (derX [0, 1, 2, 3, 4, 5, 6, 7, 8, 9, 10, 11, 12] ((List.replicate 20 11) ++ [11, 11]) [240, 241, 242, 243, 244, 245, 246, 247, 248, 249] 42).length := by rw [k4]; decide
              refine a_op ?_
              refine a_op ?_
              refine a_op (hs := by (simp only [push_cast, k4] <;> rfl)) ?_
              refine a_op ?_
              refine a_go ?_
              refine a_go ?_
              refine a_go (hs := by (simp only [push_cast, k3] <;> rfl)) ?_
              refine a_op ?_
              refine a_op ?_
              refine a_callgo [] false (awake_good Γ) ?_
              refine a_op ?_
              refine a_op ?_
              refine s_nil (r_false ?_)
              refine q_next ?_
              refine k_ret ?_
              refine ⟨.inr rfl, a_ret [] (by rw [results8]) ?_ ?_ ?_⟩ <;> simp [-List.map_set, -List.map_replicate, -List.reduceReplicate, -List.map_map, -List.map_drop, -List.map_take, num, bol, txt, w8, w16, w32, w64, lst, cls, rowO, boxO, List.take_of_length_le]

end Go.Proofs.Try
