import Derived.Test.YtihkemlgdfjmjaaDoorSL0
set_option maxHeartbeats 4000000
set_option maxRecDepth 100000
set_option linter.unusedVariables false
set_option linter.unusedSimpArgs false
namespace Go.Proofs.Tryd
open Go Go.Ot
attribute [local irreducible] wpK wpS seqK blockK loopF regK meetK OpSpec Le sched wordTo rnds addTo rotr chunks takeB be64 outB sha padB xorTo keyB hmacB orTo keyOf
theorem xored_good (Γ : Gl) (key : List UInt8) (b : UInt8) (hk : key.length ≤ 1000000000) : Go.Ot.Good Γ prog 40 [.t (txt key), .t (w8 b)] [] (.t (txt (xorTo (keyB key) b 64))) [] [] := by
  refine a_body F.mix func40 (by rfl) ntmps40 ?_
  refine k_seq ?_
  refine k_region rfl ?_
  refine a_op ?_
  refine s_nil (r_false ?_)
  refine q_next ?_
  refine k_seq ?_
  refine k_region rfl ?_
  refine a_op ?_
  rw [show ([.t (.v (.int .u8 0)), .t (.v (.int .u8 0)), .t (.v (.int .u8 0)), .t (.v (.int .u8 0)), .t (.v (.int .u8 0)), .t (.v (.int .u8 0)), .t (.v (.int .u8 0)), .t (.v (.int .u8 0)), .t (.v (.int .u8 0)), .t (.v (.int .u8 0)), .t (.v (.int .u8 0)), .t (.v (.int .u8 0)), .t (.v (.int .u8 0)), .t (.v (.int .u8 0)), .t (.v (.int .u8 0)), .t (.v (.int .u8 0)), .t (.v (.int .u8 0)), .t (.v (.int .u8 0)), .t (.v (.int .u8 0)), .t (.v (.int .u8 0)), .t (.v (.int .u8 0)), .t (.v (.int .u8 0)), .t (.v (.int .u8 0)), .t (.v (.int .u8 0)), .t (.v (.int .u8 0)), .t (.v (.int .u8 0)), .t (.v (.int .u8 0)), .t (.v (.int .u8 0)), .t (.v (.int .u8 0)), .t (.v (.int .u8 0)), .t (.v (.int .u8 0)), .t (.v (.int .u8 0)), .t (.v (.int .u8 0)), .t (.v (.int .u8 0)), .t (.v (.int .u8 0)), .t (.v (.int .u8 0)), .t (.v (.int .u8 0)), .t (.v (.int .u8 0)), .t (.v (.int .u8 0)), .t (.v (.int .u8 0)), .t (.v (.int .u8 0)), .t (.v (.int .u8 0)), .t (.v (.int .u8 0)), .t (.v (.int .u8 0)), .t (.v (.int .u8 0)), .t (.v (.int .u8 0)), .t (.v (.int .u8 0)), .t (.v (.int .u8 0)), .t (.v (.int .u8 0)), .t (.v (.int .u8 0)), .t (.v (.int .u8 0)), .t (.v (.int .u8 0)), .t (.v (.int .u8 0)), .t (.v (.int .u8 0)), .t (.v (.int .u8 0)), .t (.v (.int .u8 0)), .t (.v (.int .u8 0)), .t (.v (.int .u8 0)), .t (.v (.int .u8 0)), .t (.v (.int .u8 0)), .t (.v (.int .u8 0)), .t (.v (.int .u8 0)), .t (.v (.int .u8 0)), .t (.v (.int .u8 0))] : List D) = ((List.replicate 64 (0 : UInt8)).map w8).map D.t from rfl]
  refine a_op ?_
  refine s_nil (r_false ?_)
  refine q_next ?_
  refine k_seq ?_
  refine k_region rfl ?_
  refine a_op ?_
  refine a_op ?_
  refine a_copy ?_
  refine s_nil (r_false ?_)
  refine q_next ?_
  refine k_seq ?_
  refine k_seq ?_
  refine k_region rfl ?_
  iterate 3 refine a_op ?_
  refine s_nil (r_false ?_)
  refine q_next ?_
  refine k_block ?_
  refine k_loopF (fun sl L (i : Nat) => ⟨setAll (setBad sl [0, 6, 7, 8, 9, 10, 11, 14, 15, 16, 17, 18, 19, 20, 21, 22, 23]) [(13, .t (num i))], Go.Ot.look (putL (.r 1 0 0) (rowO 5 w8 (xorTo (keyB key) b i)) L)⟩) (fun i => i ≤ 64) (fun i => 64 - i) (0) (a_le ?_) ?_ ?_
  · refine le_same ?_ ?_ ?_ <;> simp [-List.map_set, -List.map_replicate, -List.reduceReplicate, -List.map_map, -List.map_drop, -List.map_take, num, bol, txt, w8, w16, w32, w64, lst, cls, rowO, boxO, List.take_of_length_le, xorTo, keyB]
  · (first | omega | simp)
  · intro i hi
    have hl := (xorTo_len (keyB key) b i).trans (keyB_len key)
    refine a_st ?_
    refine k_seq ?_
    refine k_region rfl ?_
    refine a_op ?_
    refine s_nil (r_false ?_)
    refine q_next ?_
    refine k_seq ?_
    refine a_if (fun hc0 => ?_) (fun hc0 => ?_)
    · (try simp only [Bool.and_eq_true, Bool.or_eq_true, Bool.or_eq_false_iff, Bool.not_eq_true', Bool.not_eq_false', dec_t, dec_f, Bool.and_eq_false_imp, beq_iff_eq, beq_eq_false_iff_ne, ne_eq] at hc0)
      refine k_skip ?_
      refine q_next ?_
      refine k_seq ?_
      refine k_block ?_
      refine k_seq ?_
      refine k_region rfl ?_
      refine a_op ?_
      refine a_op ?_
      refine s_nil (r_false ?_)
      refine q_next ?_
      refine k_region rfl ?_
      iterate 8 refine a_op ?_
      refine s_nil (r_false ?_)
      refine q_block (q_next ?_)
      refine k_region rfl ?_
      refine a_op ?_
      refine a_op ?_
      refine s_nil (r_false ?_)
      refine q_loopF (i + 1) (a_le ?_) ?_ ?_
      · refine le_same ?_ ?_ ?_ <;> simp [-List.map_set, -List.map_replicate, -List.reduceReplicate, -List.map_map, -List.map_drop, -List.map_take, num, bol, txt, w8, w16, w32, w64, lst, cls, rowO, boxO, List.take_of_length_le, xorTo]
      · (first | omega | (simp_all <;> omega))
      · (first | omega | (simp only []; omega))
    · (try simp only [Bool.and_eq_true, Bool.or_eq_true, Bool.or_eq_false_iff, Bool.not_eq_true', Bool.not_eq_false', dec_t, dec_f, Bool.and_eq_false_imp, beq_iff_eq, beq_eq_false_iff_ne, ne_eq] at hc0)
      refine k_exit ?_
      refine q_seq_exit (q_loopF_exit (q_block_exit (q_next ?_)))
      refine k_seq ?_
      refine k_region rfl ?_
      obtain rfl : i = 64 := by omega
      refine a_op ?_
      first | refine a_text ?_ | refine a_texts ?_
      refine a_op ?_
      refine s_nil (r_false ?_)
      refine q_next ?_
      refine k_ret ?_
      refine ⟨.inr rfl, a_ret [] (by rw [results40]) ?_ ?_ ?_⟩ <;> simp [-List.map_set, -List.map_replicate, -List.reduceReplicate, -List.map_map, -List.map_drop, -List.map_take, num, bol, txt, w8, w16, w32, w64, lst, cls, rowO, boxO, List.take_of_length_le]

theorem masked_good (Γ : Gl) (key : List UInt8) (b : UInt8) (hk : key.length ≤ 1000000000) : Go.Ot.Good Γ prog 25 [.t (txt key), .t (w8 b)] [] (.t (txt (xorTo (keyB key) b 64))) [] [] := by
  refine a_body F.mix func25 (by rfl) ntmps25 ?_
  refine k_seq ?_
  refine k_region rfl ?_
  refine a_op ?_
  refine s_nil (r_false ?_)
  refine q_next ?_
  refine k_seq ?_
  refine k_region rfl ?_
  refine a_op ?_
  rw [show ([.t (.v (.int .u8 0)), .t (.v (.int .u8 0)), .t (.v (.int .u8 0)), .t (.v (.int .u8 0)), .t (.v (.int .u8 0)), .t (.v (.int .u8 0)), .t (.v (.int .u8 0)), .t (.v (.int .u8 0)), .t (.v (.int .u8 0)), .t (.v (.int .u8 0)), .t (.v (.int .u8 0)), .t (.v (.int .u8 0)), .t (.v (.int .u8 0)), .t (.v (.int .u8 0)), .t (.v (.int .u8 0)), .t (.v (.int .u8 0)), .t (.v (.int .u8 0)), .t (.v (.int .u8 0)), .t (.v (.int .u8 0)), .t (.v (.int .u8 0)), .t (.v (.int .u8 0)), .t (.v (.int .u8 0)), .t (.v (.int .u8 0)), .t (.v (.int .u8 0)), .t (.v (.int .u8 0)), .t (.v (.int .u8 0)), .t (.v (.int .u8 0)), .t (.v (.int .u8 0)), .t (.v (.int .u8 0)), .t (.v (.int .u8 0)), .t (.v (.int .u8 0)), .t (.v (.int .u8 0)), .t (.v (.int .u8 0)), .t (.v (.int .u8 0)), .t (.v (.int .u8 0)), .t (.v (.int .u8 0)), .t (.v (.int .u8 0)), .t (.v (.int .u8 0)), .t (.v (.int .u8 0)), .t (.v (.int .u8 0)), .t (.v (.int .u8 0)), .t (.v (.int .u8 0)), .t (.v (.int .u8 0)), .t (.v (.int .u8 0)), .t (.v (.int .u8 0)), .t (.v (.int .u8 0)), .t (.v (.int .u8 0)), .t (.v (.int .u8 0)), .t (.v (.int .u8 0)), .t (.v (.int .u8 0)), .t (.v (.int .u8 0)), .t (.v (.int .u8 0)), .t (.v (.int .u8 0)), .t (.v (.int .u8 0)), .t (.v (.int .u8 0)), .t (.v (.int .u8 0)), .t (.v (.int .u8 0)), .t (.v (.int .u8 0)), .t (.v (.int .u8 0)), .t (.v (.int .u8 0)), .t (.v (.int .u8 0)), .t (.v (.int .u8 0)), .t (.v (.int .u8 0)), .t (.v (.int .u8 0))] : List D) = ((List.replicate 64 (0 : UInt8)).map w8).map D.t from rfl]
  refine a_op ?_
  refine s_nil (r_false ?_)
  refine q_next ?_
  refine k_seq ?_
  refine k_region rfl ?_
  refine a_op ?_
  refine a_op ?_
  refine a_copy ?_
  refine s_nil (r_false ?_)
  refine q_next ?_
  refine k_seq ?_
  refine k_seq ?_
  refine k_region rfl ?_
  refine a_op ?_
  refine s_nil (r_false ?_)
  refine q_next ?_
  refine k_block ?_
  refine k_loopF (fun sl L (i : Nat) => ⟨setAll (setBad sl [0, 7, 8, 9, 10, 11, 12, 13, 14, 15, 16, 17, 18, 19, 20, 21]) [(6, .t (num i))], Go.Ot.look (putL (.r 1 0 0) (rowO 5 w8 (xorTo (keyB key) b i)) L)⟩) (fun i => i ≤ 64) (fun i => 64 - i) (0) (a_le ?_) ?_ ?_
  · refine le_same ?_ ?_ ?_ <;> simp [-List.map_set, -List.map_replicate, -List.reduceReplicate, -List.map_map, -List.map_drop, -List.map_take, num, bol, txt, w8, w16, w32, w64, lst, cls, rowO, boxO, List.take_of_length_le, xorTo, keyB]
  · (first | omega | simp)
  · intro i hi
    have hl := (xorTo_len (keyB key) b i).trans (keyB_len key)
    refine a_st ?_
    refine k_seq ?_
    refine k_seq ?_
    refine k_region rfl ?_
    refine a_op ?_
    refine a_op ?_
    refine s_nil (r_false ?_)
    refine q_next ?_
    refine a_if (fun hc0 => ?_) (fun hc0 => ?_)
    · (try simp only [Bool.and_eq_true, Bool.or_eq_true, Bool.or_eq_false_iff, Bool.not_eq_true', Bool.not_eq_false', dec_t, dec_f, Bool.and_eq_false_imp, beq_iff_eq, beq_eq_false_iff_ne, ne_eq] at hc0)
      refine k_skip ?_
      refine q_next ?_
      refine k_seq ?_
      refine k_block ?_
      refine k_region rfl ?_
      iterate 8 refine a_op ?_
      refine s_nil (r_false ?_)
      refine q_block (q_next ?_)
      refine k_region rfl ?_
      iterate 3 refine a_op ?_
      refine s_nil (r_false ?_)
      refine q_loopF (i + 1) (a_le ?_) ?_ ?_
      · refine le_same ?_ ?_ ?_ <;> simp [-List.map_set, -List.map_replicate, -List.reduceReplicate, -List.map_map, -List.map_drop, -List.map_take, num, bol, txt, w8, w16, w32, w64, lst, cls, rowO, boxO, List.take_of_length_le, xorTo]
      · (first | omega | (simp_all <;> omega))
      · (first | omega | (simp only []; omega))
    · (try simp only [Bool.and_eq_true, Bool.or_eq_true, Bool.or_eq_false_iff, Bool.not_eq_true', Bool.not_eq_false', dec_t, dec_f, Bool.and_eq_false_imp, beq_iff_eq, beq_eq_false_iff_ne, ne_eq] at hc0)
      refine k_exit ?_
      refine q_seq_exit (q_loopF_exit (q_block_exit (q_next ?_)))
      refine k_seq ?_
      refine k_region rfl ?_
      obtain rfl : i = 64 := by omega
      refine a_op ?_
      first | refine a_text ?_ | refine a_texts ?_
      refine a_op ?_
      refine s_nil (r_false ?_)
      refine q_next ?_
      refine k_ret ?_
      refine ⟨.inr rfl, a_ret [] (by rw [results25]) ?_ ?_ ?_⟩ <;> simp [-List.map_set, -List.map_replicate, -List.reduceReplicate, -List.map_map, -List.map_drop, -List.map_take, num, bol, txt, w8, w16, w32, w64, lst, cls, rowO, boxO, List.take_of_length_le]

theorem mac_good (Γ : Gl) (key : List UInt8) (l : List (List UInt8)) (hk : key.length ≤ 100000000) (hn : l.length ≤ 100000000) (hl : l.flatten.length ≤ 100000000) : Go.Ot.Good Γ prog 29 [.t (txt key), .t (lst txt l)] [] (.t (txt (hmacB key l.flatten))) [] [] := by
  refine a_body F.mix func29 (by rfl) ntmps29 ?_
  refine k_seq ?_
  refine k_region rfl ?_
  refine a_op ?_
  refine s_nil (r_false ?_)
  refine q_next ?_
  refine k_seq ?_
  refine k_seq ?_
  refine k_region rfl ?_
  iterate 3 refine a_op ?_
  refine s_nil (r_false ?_)
  refine q_next ?_
  refine a_if (fun hc0 => ?_) (fun hc0 => ?_)
  · (try simp only [Bool.and_eq_true, Bool.or_eq_true, Bool.or_eq_false_iff, Bool.not_eq_true', Bool.not_eq_false', dec_t, dec_f, Bool.and_eq_false_imp, beq_iff_eq, beq_eq_false_iff_ne, ne_eq] at hc0)
    have hk2 : keyOf key = sha key := keyOf_big (by omega)
    refine k_region rfl ?_
    refine a_op ?_
    refine a_op ?_
    refine a_call [.r 2 1 0] false (sum_good Γ [key] (by simp) (by rw [flat_one]; omega)) ?_
    refine a_op ?_
    refine s_nil (r_false ?_)
    refine q_next ?_
    refine k_seq ?_
    refine k_region rfl ?_
    refine a_op ?_
    refine a_call [] false (xored_good Γ (sha [key].flatten) 54 (by rw [sha_len]; omega)) ?_
    iterate 4 refine a_op ?_
    refine s_nil (r_false ?_)
    refine q_next ?_
    refine k_seq ?_
    refine k_region rfl ?_
    refine a_op ?_
    refine a_call [] false (xored_good Γ (sha [key].flatten) 92 (by rw [sha_len]; omega)) ?_
    refine a_op ?_
    refine a_call [.r 3 2 0] false (sum_good Γ (xorTo (keyB (sha [key].flatten)) 54 64 :: l) (by simp; omega) (by rw [flat_cons, List.length_append, xorTo_len, keyB_len]; omega)) ?_
    refine a_op ?_
    refine a_call [.r 4 4 0] false (sum_good Γ [xorTo (keyB (sha [key].flatten)) 92 64, sha (xorTo (keyB (sha [key].flatten)) 54 64 :: l).flatten] (by simp) (by rw [flat_two, List.length_append, xorTo_len, keyB_len, sha_len]; omega)) ?_
    refine a_op ?_
    refine s_nil (r_false ?_)
    refine q_next ?_
    refine k_ret ?_
    refine ⟨.inr rfl, a_ret [] (by rw [results29]) ?_ ?_ ?_⟩ <;> simp [-List.map_set, -List.map_replicate, -List.reduceReplicate, -List.map_map, -List.map_drop, -List.map_take, num, bol, txt, w8, w16, w32, w64, lst, cls, rowO, boxO, List.take_of_length_le, hmacB, hk2, flat_one, flat_two, flat_cons]
  · (try simp only [Bool.and_eq_true, Bool.or_eq_true, Bool.or_eq_false_iff, Bool.not_eq_true', Bool.not_eq_false', dec_t, dec_f, Bool.and_eq_false_imp, beq_iff_eq, beq_eq_false_iff_ne, ne_eq] at hc0)
    have hk2 : keyOf key = key := keyOf_small (by omega)
    refine k_skip ?_
    refine q_next ?_
    refine k_seq ?_
    refine k_region rfl ?_
    refine a_op ?_
    refine a_call [] false (xored_good Γ (key) 54 (by omega)) ?_
    iterate 4 refine a_op ?_
    refine s_nil (r_false ?_)
    refine q_next ?_
    refine k_seq ?_
    refine k_region rfl ?_
    refine a_op ?_
    refine a_call [] false (xored_good Γ (key) 92 (by omega)) ?_
    refine a_op ?_
    refine a_call [.r 3 2 0] false (sum_good Γ (xorTo (keyB (key)) 54 64 :: l) (by simp; omega) (by rw [flat_cons, List.length_append, xorTo_len, keyB_len]; omega)) ?_
    refine a_op ?_
    refine a_call [.r 4 4 0] false (sum_good Γ [xorTo (keyB (key)) 92 64, sha (xorTo (keyB (key)) 54 64 :: l).flatten] (by simp) (by rw [flat_two, List.length_append, xorTo_len, keyB_len, sha_len]; omega)) ?_
    refine a_op ?_
    refine s_nil (r_false ?_)
    refine q_next ?_
    refine k_ret ?_
    refine ⟨.inr rfl, a_ret [] (by rw [results29]) ?_ ?_ ?_⟩ <;> simp [-List.map_set, -List.map_replicate, -List.reduceReplicate, -List.map_map, -List.map_drop, -List.map_take, num, bol, txt, w8, w16, w32, w64, lst, cls, rowO, boxO, List.take_of_length_le, hmacB, hk2, flat_one, flat_two, flat_cons]

theorem refmac_good (Γ : Gl) (key s : List UInt8) (hk : key.length ≤ 100000000) (hs : s.length ≤ 100000000) : Go.Ot.Good Γ prog 21 [.t (txt key), .t (txt s)] [] (.t (txt (hmacB key s))) [] [] := by
  refine a_body F.mix func21 (by rfl) ntmps21 ?_
  refine k_seq ?_
  refine k_region rfl ?_
  refine a_op ?_
  refine s_nil (r_false ?_)
  refine q_next ?_
  refine k_seq ?_
  refine k_seq ?_
  refine k_region rfl ?_
  iterate 3 refine a_op ?_
  refine s_nil (r_false ?_)
  refine q_next ?_
  refine a_if (fun hc0 => ?_) (fun hc0 => ?_)
  · (try simp only [Bool.and_eq_true, Bool.or_eq_true, Bool.or_eq_false_iff, Bool.not_eq_true', Bool.not_eq_false', dec_t, dec_f, Bool.and_eq_false_imp, beq_iff_eq, beq_eq_false_iff_ne, ne_eq] at hc0)
    have hk2 : keyOf key = sha key := keyOf_big (by omega)
    refine k_region rfl ?_
    refine a_op ?_
    refine a_call [] false (ref_good Γ key (by omega)) ?_
    refine a_op ?_
    refine s_nil (r_false ?_)
    refine q_next ?_
    refine k_seq ?_
    refine k_region rfl ?_
    refine a_op ?_
    refine a_call [] false (masked_good Γ (sha key) 92 (by rw [sha_len]; omega)) ?_
    refine a_op ?_
    refine a_call [] false (masked_good Γ (sha key) 54 (by rw [sha_len]; omega)) ?_
    refine a_op ?_
    refine a_op ?_
    refine a_call [] false (ref_good Γ (xorTo (keyB (sha key)) 54 64 ++ s) (by rw [List.length_append, xorTo_len, keyB_len]; omega)) ?_
    refine a_op ?_
    refine a_call [] false (ref_good Γ (xorTo (keyB (sha key)) 92 64 ++ sha (xorTo (keyB (sha key)) 54 64 ++ s)) (by rw [List.length_append, xorTo_len, keyB_len, sha_len]; omega)) ?_
    refine a_op ?_
    refine s_nil (r_false ?_)
    refine q_next ?_
    refine k_ret ?_
    refine ⟨.inr rfl, a_ret [] (by rw [results21]) ?_ ?_ ?_⟩ <;> simp [-List.map_set, -List.map_replicate, -List.reduceReplicate, -List.map_map, -List.map_drop, -List.map_take, num, bol, txt, w8, w16, w32, w64, lst, cls, rowO, boxO, List.take_of_length_le, hmacB, hk2]
  · (try simp only [Bool.and_eq_true, Bool.or_eq_true, Bool.or_eq_false_iff, Bool.not_eq_true', Bool.not_eq_false', dec_t, dec_f, Bool.and_eq_false_imp, beq_iff_eq, beq_eq_false_iff_ne, ne_eq] at hc0)
    have hk2 : keyOf key = key := keyOf_small (by omega)
    refine k_skip ?_
    refine q_next ?_
    refine k_seq ?_
    refine k_region rfl ?_
    refine a_op ?_
    refine a_call [] false (masked_good Γ (key) 92 (by omega)) ?_
    refine a_op ?_
    refine a_call [] false (masked_good Γ (key) 54 (by omega)) ?_
    refine a_op ?_
    refine a_op ?_
    refine a_call [] false (ref_good Γ (xorTo (keyB (key)) 54 64 ++ s) (by rw [List.length_append, xorTo_len, keyB_len]; omega)) ?_
    refine a_op ?_
    refine a_call [] false (ref_good Γ (xorTo (keyB (key)) 92 64 ++ sha (xorTo (keyB (key)) 54 64 ++ s)) (by rw [List.length_append, xorTo_len, keyB_len, sha_len]; omega)) ?_
    refine a_op ?_
    refine s_nil (r_false ?_)
    refine q_next ?_
    refine k_ret ?_
    refine ⟨.inr rfl, a_ret [] (by rw [results21]) ?_ ?_ ?_⟩ <;> simp [-List.map_set, -List.map_replicate, -List.reduceReplicate, -List.map_map, -List.map_drop, -List.map_take, num, bol, txt, w8, w16, w32, w64, lst, cls, rowO, boxO, List.take_of_length_le, hmacB, hk2]

end Go.Proofs.Tryd
