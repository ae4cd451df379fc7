import Derived.Test.YtcajgckomhhglaaSCS
set_option maxHeartbeats 4000000
set_option maxRecDepth 100000
set_option linter.unusedVariables false
set_option linter.unusedSimpArgs false
namespace Go.Proofs.Try
open Go Go.Ot
attribute [local irreducible] wpK wpS seqK blockK loopF regK meetK OpSpec Le chB fillT xorF chF chX
theorem refxor_good (Γ : Gl) (key nonce : List UInt8) (c : Nat) (b : List UInt8) (hk : key.length = 32) (hn : nonce.length = 12) (hb0 : 0 < b.length) (hb1 : b.length ≤ 100000000) (hc : c + (b.length + 63) / 64 ≤ 4294967296) : Go.Ot.Good Γ prog 15 [.t (txt key), .t (txt nonce), .t (num c), .t (txt b)] [] (.t (txt (chX key nonce c b))) [] [] := by
  have hne : (chB key nonce c == []) = false := by have := chB_len key nonce c; cases h : chB key nonce c with | nil => rw [h] at this; simp at this | cons x l => rfl
  refine a_body F.mix func15 (by rfl) ntmps15 ?_
  refine k_seq ?_
  refine k_region rfl ?_
  refine a_op ?_
  refine s_nil (r_false ?_)
  refine q_next ?_
  refine k_seq ?_
  refine k_seq ?_
  refine k_region rfl ?_
  iterate 4 refine a_op ?_
  refine a_go ?_
  refine a_go ?_
  refine a_go ?_
  refine a_callgo [] false (refblock_good Γ key nonce c hk hn (by omega)) ?_
  refine a_go (hs := by (simp only [push_cast, hne] <;> rfl)) ?_
  refine a_op ?_
  refine a_op ?_
  refine a_go ?_
  refine a_go ?_
  refine a_go ?_
  refine a_go ?_
  refine a_go ?_
  refine a_go ?_
  refine a_go ?_
  refine a_op ?_
  refine s_nil (r_false ?_)
  refine q_next ?_
  refine a_false ?_
  refine k_skip ?_
  refine q_next ?_
  refine k_seq ?_
  refine k_region rfl ?_
  iterate 3 refine a_op ?_
  refine s_nil (r_false ?_)
  refine q_next ?_
  refine k_seq ?_
  refine k_seq ?_
  refine k_region rfl ?_
  refine a_op ?_
  refine s_nil (r_false ?_)
  refine q_next ?_
  refine k_block ?_
  refine k_loopF (fun sl L (n : Nat) => ⟨setAll (setBad sl [3, 11, 12, 13, 14, 15, 16, 17, 18, 19, 20, 21, 22, 23, 24, 25, 26, 27, 28, 29, 30, 31, 32, 33, 34, 35, 36, 37, 38, 39, 40, 41, 42, 43, 44, 45, 46, 47, 48, 49, 50, 51, 52, 53, 54, 55, 56, 57, 58, 59, 60, 61, 62, 63, 64, 65, 66, 67, 68, 69, 70]) [(10, .t (num (64 * (n : Int))))], Go.Ot.look (putL (.r 3 1 0) (rowO 5 w8 (fillT (xorF (chF key nonce c) b (min (64 * n) b.length)) b)) L)⟩) (fun n => n ≤ (b.length + 63) / 64) (fun n => (b.length + 63) / 64 - n) (0) (a_le ?_) ?_ ?_
  · refine le_same ?_ ?_ ?_ <;> simp [-List.map_set, -List.map_replicate, -List.reduceReplicate, -List.map_map, -List.map_drop, -List.map_take, num, bol, txt, w8, w16, w32, w64, lst, cls, rowO, boxO, List.take_of_length_le, xorF, fillT_nil] <;> (try omega)
  · (first | omega | simp)
  · intro n hnm
    have hfl0 : (fillT (xorF (chF key nonce c) b (min (64 * n) b.length)) b).length = b.length := by rw [fillT_len (by simp [xorF_len]; omega)]
    refine a_st ?_
    refine k_seq ?_
    refine k_seq ?_
    refine k_region rfl ?_
    iterate 4 refine a_op ?_
    refine s_nil (r_false ?_)
    refine q_next ?_
    refine a_if (fun hc1 => ?_) (fun hc1 => ?_)
    · (try simp only [Bool.and_eq_true, Bool.or_eq_true, Bool.or_eq_false_iff, Bool.not_eq_true', Bool.not_eq_false', dec_t, dec_f, Bool.and_eq_false_imp, beq_iff_eq, beq_eq_false_iff_ne, ne_eq] at hc1)
      refine k_skip ?_
      refine q_next ?_
      refine k_seq ?_
      refine k_block ?_
      refine k_seq ?_
      refine k_region rfl ?_
      iterate 6 refine a_op ?_
      refine a_call [] false (refblock_good Γ key nonce (c + n) hk hn (by omega)) ?_
      refine a_op ?_
      refine s_nil (r_false ?_)
      refine q_next ?_
      refine k_seq ?_
      refine k_region rfl ?_
      refine a_op ?_
      refine a_op ?_
      refine s_nil (r_false ?_)
      refine q_next ?_
      refine k_block ?_
      refine k_loopF (fun sl L (i : Nat) => ⟨setAll (setBad sl [3, 13, 14, 15, 16, 17, 18, 19, 20, 21, 22, 23, 24, 25, 26, 27, 28, 29, 30, 31, 32, 33, 34, 35, 36, 37, 40, 41, 42, 43, 44, 45, 46, 47, 48, 49, 50, 51, 52, 53, 54, 55, 56, 57, 58, 59, 60, 61, 62, 63, 64, 65, 66, 67, 68, 69, 70]) [(12, .t (num (64 * (n : Int) + (i : Int))))], Go.Ot.look (putL (.r 3 1 0) (rowO 5 w8 (fillT (xorF (chF key nonce c) b (64 * n + i)) b)) L)⟩) (fun i => i ≤ min 64 (b.length - 64 * n)) (fun i => 64 - i) (0) (a_le ?_) ?_ ?_
      · refine le_same ?_ ?_ ?_ <;> simp [-List.map_set, -List.map_replicate, -List.reduceReplicate, -List.map_map, -List.map_drop, -List.map_take, num, bol, txt, w8, w16, w32, w64, lst, cls, rowO, boxO, List.take_of_length_le, show min (64 * n) b.length = 64 * n from by omega]
      · (first | omega | simp)
      · intro i hi
        have hx := chB_len key nonce (c + n)
        have hfl : (fillT (xorF (chF key nonce c) b (64 * n + i)) b).length = b.length := by rw [fillT_len (by simp [xorF_len]; omega)]
        refine a_st ?_
        refine k_seq ?_
        refine k_seq ?_
        refine k_region rfl ?_
        iterate 5 refine a_op ?_
        first | refine a_go ?_ | refine a_no ?_ | refine a_may ?_
        first | refine a_go ?_ | refine a_no ?_ | refine a_may ?_
        first | refine a_go ?_ | refine a_no ?_ | refine a_may ?_
        first | refine a_go ?_ | refine a_no ?_ | refine a_may ?_
        refine a_op ?_
        refine s_nil (r_false ?_)
        refine q_next ?_
        refine a_if (fun hc2 => ?_) (fun hc2 => ?_)
        · (try simp only [Bool.and_eq_true, Bool.or_eq_true, Bool.or_eq_false_iff, Bool.not_eq_true', Bool.not_eq_false', dec_t, dec_f, Bool.and_eq_false_imp, beq_iff_eq, beq_eq_false_iff_ne, ne_eq] at hc2)
          refine k_skip ?_
          refine q_next ?_
          refine k_seq ?_
          refine k_block ?_
          refine k_region rfl ?_
          iterate 12 refine a_opd ?_
          refine s_nil (r_true (by kernel_rfl) ?_)
          refine q_block (q_next ?_)
          refine k_region rfl ?_
          iterate 3 refine a_op ?_
          refine s_nil (r_false ?_)
          have e3 : ((64 : Int) * (n : Int) + (i : Int) - 64 * (n : Int)).toNat = i := by omega
          have e4 := fillT_get (a := xorF (chF key nonce c) b (64 * n + i)) (b := b) (i := 64 * n + i) (xorF_len _ _ _).symm
          have e1 : ((64 : Int) * (n : Int) + (i : Int)).toNat = 64 * n + i := by omega
          have e2 := chF_at key nonce c n i (by omega)
          have hset := fun x : UInt8 => fillT_at (a := xorF (chF key nonce c) b (64 * n + i)) (b := b) (i := 64 * n + i) (xorF_len _ _ _).symm (by simp [xorF_len]; omega) x
          simp only [List.getD_eq_getElem?_getD] at e2
          refine q_loopF (i + 1) (a_le ?_) ?_ ?_
          · refine le_same ?_ ?_ ?_ <;> simp [-List.map_set, -List.map_replicate, -List.reduceReplicate, -List.map_map, -List.map_drop, -List.map_take, num, bol, txt, w8, w16, w32, w64, lst, cls, rowO, boxO, List.take_of_length_le, e1, e2, e3, e4, hset, xorF, Int.add_assoc, show 64 * n + (i + 1) = (64 * n + i) + 1 from rfl]
          · (first | omega | (simp_all <;> omega))
          · (first | omega | (simp only []; omega))
        · (try simp only [Bool.and_eq_true, Bool.or_eq_true, Bool.or_eq_false_iff, Bool.not_eq_true', Bool.not_eq_false', dec_t, dec_f, Bool.and_eq_false_imp, beq_iff_eq, beq_eq_false_iff_ne, ne_eq] at hc2)
          refine k_exit ?_
          refine q_seq_exit (q_loopF_exit (q_block_exit (q_block (q_next ?_))))
          refine k_region rfl ?_
          iterate 3 refine a_op ?_
          refine s_nil (r_false ?_)
          obtain rfl : i = min 64 (b.length - 64 * n) := by omega
          refine q_loopF (n + 1) (a_le ?_) ?_ ?_
          · refine le_same ?_ ?_ ?_ <;> simp [-List.map_set, -List.map_replicate, -List.reduceReplicate, -List.map_map, -List.map_drop, -List.map_take, num, bol, txt, w8, w16, w32, w64, lst, cls, rowO, boxO, List.take_of_length_le, Int.mul_add, show 64 * n + min 64 (b.length - 64 * n) = min (64 * (n + 1)) b.length from by omega] <;> (try omega)
          · (first | omega | (simp_all <;> omega))
          · (first | omega | (simp only []; omega))
    · (try simp only [Bool.and_eq_true, Bool.or_eq_true, Bool.or_eq_false_iff, Bool.not_eq_true', Bool.not_eq_false', dec_t, dec_f, Bool.and_eq_false_imp, beq_iff_eq, beq_eq_false_iff_ne, ne_eq] at hc1)
      refine k_exit ?_
      refine q_seq_exit (q_loopF_exit (q_block_exit (q_next ?_)))
      refine k_seq ?_
      refine k_region rfl ?_
      rw [show min (64 * n) b.length = b.length from by omega, fillT_full (by simp [xorF_len]), ← chX_def]
      refine a_op ?_
      first | refine a_text ?_ | refine a_texts ?_
      refine a_op ?_
      refine s_nil (r_false ?_)
      refine q_next ?_
      refine k_ret ?_
      refine ⟨.inr rfl, a_ret [] (by rw [results15]) ?_ ?_ ?_⟩ <;> simp [-List.map_set, -List.map_replicate, -List.reduceReplicate, -List.map_map, -List.map_drop, -List.map_take, num, bol, txt, w8, w16, w32, w64, lst, cls, rowO, boxO, List.take_of_length_le, chX_len]

end Go.Proofs.Try
