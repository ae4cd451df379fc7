import Derived.Test.YtcajgckomhhglaaSCC
set_option maxHeartbeats 4000000
set_option maxRecDepth 100000
set_option linter.unusedVariables false
set_option linter.unusedSimpArgs false
namespace Go.Proofs.Try
open Go Go.Ot
attribute [local irreducible] wpK wpS seqK blockK loopF regK meetK OpSpec Le addL turnL stepL quarL colTo diaTo rndTo wrd initA initB by4 outC chB fillT
theorem block_good (Γ : Gl) (key nonce : List UInt8) (c : Nat) (hk : key.length = 32) (hn : nonce.length = 12) (hc : c < 4294967296) : Go.Ot.Good Γ prog 36 [.t (txt key), .t (txt nonce), .t (num c)] [] (.agg (cls w8 (chB key nonce c))) [] [] := by
  refine a_body F.mix func36 (by rfl) ntmps36 ?_
  refine k_seq ?_
  refine k_region rfl ?_
  refine a_op ?_
  refine s_nil (r_false ?_)
  refine q_next ?_
  refine k_seq ?_
  refine k_region rfl ?_
  refine a_op ?_
  refine s_nil (r_false ?_)
  refine q_next ?_
  refine k_seq ?_
  refine k_region rfl ?_
  iterate 3 refine a_op ?_
  refine s_nil (r_false ?_)
  refine q_next ?_
  refine k_seq ?_
  refine k_seq ?_
  refine k_region rfl ?_
  refine a_op ?_
  refine s_nil (r_false ?_)
  refine q_next ?_
  refine k_block ?_
  refine k_loopF (fun sl L (i : Nat) => ⟨setAll (setBad sl [0, 9, 18, 19, 21, 22, 23, 24, 25, 26, 27, 28, 29]) [(20, .t (num i))], Go.Ot.look (putL (.r 1 0 0) (boxO 88 (cls w32 (initA key i))) L)⟩) (fun i => i ≤ 12) (fun i => 12 - i) (0) (a_le ?_) ?_ ?_
  · refine le_same ?_ ?_ ?_ <;> simp [-List.map_set, -List.map_replicate, -List.reduceReplicate, -List.map_map, -List.map_drop, -List.map_take, num, bol, txt, w8, w16, w32, w64, lst, cls, rowO, boxO, List.take_of_length_le, initA]
  · (first | omega | simp)
  · intro i hi
    refine a_st ?_
    refine k_seq ?_
    refine k_region rfl ?_
    refine a_op ?_
    refine s_nil (r_false ?_)
    refine q_next ?_
    refine k_seq ?_
    refine a_if (fun hc0 => ?_) (fun hc0 => ?_)
    · (try simp only [Bool.and_eq_true, Bool.or_eq_true, Bool.or_eq_false_iff, Bool.not_eq_true', Bool.not_eq_false', dec_t, dec_f, Bool.and_eq_false_imp, beq_iff_eq, beq_eq_false_iff_ne, ne_eq] at hc0)
      refine k_skip ?_
      refine q_next ?_
      refine k_seq ?_
      refine k_block ?_
      refine k_seq ?_
      refine k_region rfl ?_
      refine a_op ?_
      refine a_op ?_
      refine s_nil (r_false ?_)
      refine q_next ?_
      refine k_region rfl ?_
      iterate 4 refine a_op ?_
      refine a_call [] false (word_good Γ (E16 ++ key) (4 * i) (by simp [E16]; omega) (by simp [E16]; omega)) ?_
      refine a_op ?_
      refine a_op ?_
      refine s_nil (r_false ?_)
      refine q_block (q_next ?_)
      refine k_region rfl ?_
      refine a_op ?_
      refine a_op ?_
      refine s_nil (r_false ?_)
      refine q_loopF (i + 1) (a_le ?_) ?_ ?_
      · refine le_same ?_ ?_ ?_ <;> simp [-List.map_set, -List.map_replicate, -List.reduceReplicate, -List.map_map, -List.map_drop, -List.map_take, num, bol, txt, w8, w16, w32, w64, lst, cls, rowO, boxO, List.take_of_length_le, initA]
      · (first | omega | (simp_all <;> omega))
      · (first | omega | (simp only []; omega))
    · (try simp only [Bool.and_eq_true, Bool.or_eq_true, Bool.or_eq_false_iff, Bool.not_eq_true', Bool.not_eq_false', dec_t, dec_f, Bool.and_eq_false_imp, beq_iff_eq, beq_eq_false_iff_ne, ne_eq] at hc0)
      refine k_exit ?_
      refine q_seq_exit (q_loopF_exit (q_block_exit (q_next ?_)))
      refine k_seq ?_
      refine k_region rfl ?_
      refine a_op ?_
      refine a_cv32 ?_
      refine a_op ?_
      refine a_op ?_
      refine s_nil (r_false ?_)
      refine q_next ?_
      refine k_seq ?_
      refine k_seq ?_
      refine k_region rfl ?_
      refine a_op ?_
      refine s_nil (r_false ?_)
      refine q_next ?_
      refine k_block ?_
      obtain rfl : i = 12 := by omega
      refine k_loopF (fun sl L (j : Nat) => ⟨setAll (setBad sl [0, 2, 8, 9, 10, 18, 19, 20, 21, 22, 23, 24, 25, 26, 27, 28, 29, 30, 31, 32, 34, 35, 36, 37, 38, 39, 40, 41, 42, 43]) [(33, .t (num j))], Go.Ot.look (putL (.r 1 0 0) (boxO 88 (cls w32 (initB key nonce c j))) L)⟩) (fun j => j ≤ 3) (fun j => 3 - j) (0) (a_le ?_) ?_ ?_
      · refine le_same ?_ ?_ ?_ <;> simp [-List.map_set, -List.map_replicate, -List.reduceReplicate, -List.map_map, -List.map_drop, -List.map_take, num, bol, txt, w8, w16, w32, w64, lst, cls, rowO, boxO, List.take_of_length_le, initB]
      · (first | omega | simp)
      · intro j hj
        refine a_st ?_
        refine k_seq ?_
        refine k_region rfl ?_
        refine a_op ?_
        refine s_nil (r_false ?_)
        refine q_next ?_
        refine k_seq ?_
        refine a_if (fun hc1 => ?_) (fun hc1 => ?_)
        · (try simp only [Bool.and_eq_true, Bool.or_eq_true, Bool.or_eq_false_iff, Bool.not_eq_true', Bool.not_eq_false', dec_t, dec_f, Bool.and_eq_false_imp, beq_iff_eq, beq_eq_false_iff_ne, ne_eq] at hc1)
          refine k_skip ?_
          refine q_next ?_
          refine k_seq ?_
          refine k_block ?_
          refine k_seq ?_
          refine k_region rfl ?_
          refine a_op ?_
          refine a_op ?_
          refine s_nil (r_false ?_)
          refine q_next ?_
          refine k_region rfl ?_
          iterate 5 refine a_op ?_
          refine a_call [] false (word_good Γ nonce (4 * j) (by omega) (by omega)) ?_
          refine a_op ?_
          refine a_op ?_
          refine s_nil (r_false ?_)
          refine q_block (q_next ?_)
          refine k_region rfl ?_
          refine a_op ?_
          refine a_op ?_
          refine s_nil (r_false ?_)
          have e1 : ((13 : Int) + (j : Int)).toNat = 13 + j := by omega
          refine q_loopF (j + 1) (a_le ?_) ?_ ?_
          · refine le_same ?_ ?_ ?_ <;> simp [-List.map_set, -List.map_replicate, -List.reduceReplicate, -List.map_map, -List.map_drop, -List.map_take, num, bol, txt, w8, w16, w32, w64, lst, cls, rowO, boxO, List.take_of_length_le, initB, e1]
          · (first | omega | (simp_all <;> omega))
          · (first | omega | (simp only []; omega))
        · (try simp only [Bool.and_eq_true, Bool.or_eq_true, Bool.or_eq_false_iff, Bool.not_eq_true', Bool.not_eq_false', dec_t, dec_f, Bool.and_eq_false_imp, beq_iff_eq, beq_eq_false_iff_ne, ne_eq] at hc1)
          refine k_exit ?_
          refine q_seq_exit (q_loopF_exit (q_block_exit (q_next ?_)))
          refine k_seq ?_
          refine k_region rfl ?_
          iterate 3 refine a_op ?_
          refine s_nil (r_false ?_)
          refine q_next ?_
          refine k_seq ?_
          refine k_seq ?_
          refine k_region rfl ?_
          refine a_op ?_
          refine s_nil (r_false ?_)
          refine q_next ?_
          refine k_block ?_
          obtain rfl : j = 3 := by omega
          refine k_loopF (fun sl L (n : Nat) => ⟨setAll (setBad sl [0, 1, 2, 8, 9, 10, 12, 13, 18, 19, 20, 21, 22, 23, 24, 25, 26, 27, 28, 29, 30, 31, 32, 33, 34, 35, 36, 37, 38, 39, 40, 41, 42, 43, 44, 46, 47, 48, 49, 50, 51, 52, 53, 54, 55, 56, 57, 58, 59, 60, 61, 62, 63, 64, 65, 66, 67, 68, 69, 70, 71, 72, 73, 74, 75, 76, 77]) [(45, .t (num n))], Go.Ot.look (putL (.r 1 0 0) (boxO 88 (cls w32 (rndTo (initB key nonce c 3) n))) L)⟩) (fun n => n ≤ 10) (fun n => 10 - n) (0) (a_le ?_) ?_ ?_
          · refine le_same ?_ ?_ ?_ <;> simp [-List.map_set, -List.map_replicate, -List.reduceReplicate, -List.map_map, -List.map_drop, -List.map_take, num, bol, txt, w8, w16, w32, w64, lst, cls, rowO, boxO, List.take_of_length_le, rndTo]
          · (first | omega | simp)
          · intro n hn
            refine a_st ?_
            refine k_seq ?_
            refine k_region rfl ?_
            refine a_op ?_
            refine s_nil (r_false ?_)
            refine q_next ?_
            refine k_seq ?_
            refine a_if (fun hc2 => ?_) (fun hc2 => ?_)
            · (try simp only [Bool.and_eq_true, Bool.or_eq_true, Bool.or_eq_false_iff, Bool.not_eq_true', Bool.not_eq_false', dec_t, dec_f, Bool.and_eq_false_imp, beq_iff_eq, beq_eq_false_iff_ne, ne_eq] at hc2)
              refine k_skip ?_
              refine q_next ?_
              refine k_seq ?_
              refine k_block ?_
              refine k_seq ?_
              refine k_seq ?_
              refine k_region rfl ?_
              refine a_op ?_
              refine s_nil (r_false ?_)
              refine q_next ?_
              refine k_block ?_
              refine k_loopF (fun sl L (a : Nat) => ⟨setAll (setBad sl [0, 1, 2, 8, 9, 10, 12, 18, 19, 20, 21, 22, 23, 24, 25, 26, 27, 28, 29, 30, 31, 32, 33, 34, 35, 36, 37, 38, 39, 40, 41, 42, 43, 44, 46, 48, 49, 50, 51, 52, 53, 54, 55, 56, 57, 58]) [(47, .t (num a))], Go.Ot.look (putL (.r 1 0 0) (boxO 88 (cls w32 (colTo (rndTo (initB key nonce c 3) n) a))) L)⟩) (fun a => a ≤ 4) (fun a => 4 - a) (0) (a_le ?_) ?_ ?_
              · refine le_same ?_ ?_ ?_ <;> simp [-List.map_set, -List.map_replicate, -List.reduceReplicate, -List.map_map, -List.map_drop, -List.map_take, num, bol, txt, w8, w16, w32, w64, lst, cls, rowO, boxO, List.take_of_length_le, colTo]
              · (first | omega | simp)
              · intro a ha
                refine a_st ?_
                refine k_seq ?_
                refine k_region rfl ?_
                refine a_op ?_
                refine s_nil (r_false ?_)
                refine q_next ?_
                refine k_seq ?_
                refine a_if (fun hc3 => ?_) (fun hc3 => ?_)
                · (try simp only [Bool.and_eq_true, Bool.or_eq_true, Bool.or_eq_false_iff, Bool.not_eq_true', Bool.not_eq_false', dec_t, dec_f, Bool.and_eq_false_imp, beq_iff_eq, beq_eq_false_iff_ne, ne_eq] at hc3)
                  refine k_skip ?_
                  refine q_next ?_
                  refine k_seq ?_
                  refine k_block ?_
                  refine k_seq ?_
                  refine k_region rfl ?_
                  refine a_op ?_
                  refine a_op ?_
                  refine s_nil (r_false ?_)
                  refine q_next ?_
                  refine k_region rfl ?_
                  iterate 7 refine a_op ?_
                  refine a_callp [.r 1 0 0] [] [] false (quar_good Γ (colTo (rndTo (initB key nonce c 3) n) a) (a) (4 + a) (8 + a) (12 + a) (by simp [colTo_len, diaTo_len, rndTo_len, initB_len]) (by omega) (by omega) (by omega) (by omega)) ?_
                  refine s_nil (r_false ?_)
                  refine q_block (q_next ?_)
                  refine k_region rfl ?_
                  refine a_op ?_
                  refine a_op ?_
                  refine s_nil (r_false ?_)
                  refine q_loopF (a + 1) (a_le ?_) ?_ ?_
                  · refine le_same ?_ ?_ ?_ <;> simp [-List.map_set, -List.map_replicate, -List.reduceReplicate, -List.map_map, -List.map_drop, -List.map_take, num, bol, txt, w8, w16, w32, w64, lst, cls, rowO, boxO, List.take_of_length_le, colTo]
                  · (first | omega | (simp_all <;> omega))
                  · (first | omega | (simp only []; omega))
                · (try simp only [Bool.and_eq_true, Bool.or_eq_true, Bool.or_eq_false_iff, Bool.not_eq_true', Bool.not_eq_false', dec_t, dec_f, Bool.and_eq_false_imp, beq_iff_eq, beq_eq_false_iff_ne, ne_eq] at hc3)
                  refine k_exit ?_
                  refine q_seq_exit (q_loopF_exit (q_block_exit (q_next ?_)))
                  refine k_seq ?_
                  refine k_region rfl ?_
                  refine a_op ?_
                  refine s_nil (r_false ?_)
                  refine q_next ?_
                  refine k_block ?_
                  obtain rfl : a = 4 := by omega
                  refine k_loopF (fun sl L (b : Nat) => ⟨setAll (setBad sl [0, 1, 2, 8, 9, 10, 13, 18, 19, 20, 21, 22, 23, 24, 25, 26, 27, 28, 29, 30, 31, 32, 33, 34, 35, 36, 37, 38, 39, 40, 41, 42, 43, 44, 46, 48, 49, 50, 51, 52, 53, 54, 55, 56, 57, 58, 60, 61, 62, 63, 64, 65, 66, 67, 68, 69, 70, 71, 72, 73, 74, 75, 76]) [(59, .t (num b))], Go.Ot.look (putL (.r 1 0 0) (boxO 88 (cls w32 (diaTo (colTo (rndTo (initB key nonce c 3) n) 4) b))) L)⟩) (fun b => b ≤ 4) (fun b => 4 - b) (0) (a_le ?_) ?_ ?_
                  · refine le_same ?_ ?_ ?_ <;> simp [-List.map_set, -List.map_replicate, -List.reduceReplicate, -List.map_map, -List.map_drop, -List.map_take, num, bol, txt, w8, w16, w32, w64, lst, cls, rowO, boxO, List.take_of_length_le, diaTo]
                  · (first | omega | simp)
                  · intro b hb
                    refine a_st ?_
                    refine k_seq ?_
                    refine k_region rfl ?_
                    refine a_op ?_
                    refine s_nil (r_false ?_)
                    refine q_next ?_
                    refine k_seq ?_
                    refine a_if (fun hc4 => ?_) (fun hc4 => ?_)
                    · (try simp only [Bool.and_eq_true, Bool.or_eq_true, Bool.or_eq_false_iff, Bool.not_eq_true', Bool.not_eq_false', dec_t, dec_f, Bool.and_eq_false_imp, beq_iff_eq, beq_eq_false_iff_ne, ne_eq] at hc4)
                      refine k_skip ?_
                      refine q_next ?_
                      refine k_seq ?_
                      refine k_block ?_
                      refine k_seq ?_
                      refine k_region rfl ?_
                      refine a_op ?_
                      refine a_op ?_
                      refine s_nil (r_false ?_)
                      refine q_next ?_
                      refine k_region rfl ?_
                      iterate 13 refine a_op ?_
                      refine a_callp [.r 1 0 0] [] [] false (quar_good Γ (diaTo (colTo (rndTo (initB key nonce c 3) n) 4) b) (b) (4 + (b + 1) % 4) (8 + (b + 2) % 4) (12 + (b + 3) % 4) (by simp [colTo_len, diaTo_len, rndTo_len, initB_len]) (by omega) (by omega) (by omega) (by omega)) ?_
                      refine s_nil (r_false ?_)
                      refine q_block (q_next ?_)
                      refine k_region rfl ?_
                      refine a_op ?_
                      refine a_op ?_
                      refine s_nil (r_false ?_)
                      refine q_loopF (b + 1) (a_le ?_) ?_ ?_
                      · refine le_same ?_ ?_ ?_ <;> simp [-List.map_set, -List.map_replicate, -List.reduceReplicate, -List.map_map, -List.map_drop, -List.map_take, num, bol, txt, w8, w16, w32, w64, lst, cls, rowO, boxO, List.take_of_length_le, diaTo]
                      · (first | omega | (simp_all <;> omega))
                      · (first | omega | (simp only []; omega))
                    · (try simp only [Bool.and_eq_true, Bool.or_eq_true, Bool.or_eq_false_iff, Bool.not_eq_true', Bool.not_eq_false', dec_t, dec_f, Bool.and_eq_false_imp, beq_iff_eq, beq_eq_false_iff_ne, ne_eq] at hc4)
                      refine k_exit ?_
                      refine q_seq_exit (q_loopF_exit (q_block_exit (q_block (q_next ?_))))
                      refine k_region rfl ?_
                      refine a_op ?_
                      refine a_op ?_
                      refine s_nil (r_false ?_)
                      obtain rfl : b = 4 := by omega
                      refine q_loopF (n + 1) (a_le ?_) ?_ ?_
                      · refine le_same ?_ ?_ ?_ <;> simp [-List.map_set, -List.map_replicate, -List.reduceReplicate, -List.map_map, -List.map_drop, -List.map_take, num, bol, txt, w8, w16, w32, w64, lst, cls, rowO, boxO, List.take_of_length_le, rndTo]
                      · (first | omega | (simp_all <;> omega))
                      · (first | omega | (simp only []; omega))
            · (try simp only [Bool.and_eq_true, Bool.or_eq_true, Bool.or_eq_false_iff, Bool.not_eq_true', Bool.not_eq_false', dec_t, dec_f, Bool.and_eq_false_imp, beq_iff_eq, beq_eq_false_iff_ne, ne_eq] at hc2)
              refine k_exit ?_
              refine q_seq_exit (q_loopF_exit (q_block_exit (q_next ?_)))
              refine k_seq ?_
              refine k_region rfl ?_
              refine a_op ?_
              refine s_nil (r_false ?_)
              refine q_next ?_
              refine k_seq ?_
              refine k_seq ?_
              refine k_region rfl ?_
              refine a_op ?_
              refine a_op ?_
              refine s_nil (r_false ?_)
              refine q_next ?_
              refine k_block ?_
              obtain rfl : n = 10 := by omega
              refine k_loopF (fun sl L (p : Nat) => ⟨setAll (setBad sl [0, 1, 2, 8, 9, 10, 11, 12, 13, 15, 16, 17, 18, 19, 20, 21, 22, 23, 24, 25, 26, 27, 28, 29, 30, 31, 32, 33, 34, 35, 36, 37, 38, 39, 40, 41, 42, 43, 44, 45, 46, 47, 48, 49, 50, 51, 52, 53, 54, 55, 56, 57, 58, 59, 60, 61, 62, 63, 64, 65, 66, 67, 68, 69, 70, 71, 72, 73, 74, 75, 76, 77, 80, 81, 82, 83, 84, 85, 86, 87, 88, 89, 90, 91, 92, 93, 94, 95, 96, 97, 98, 99, 100, 101, 102]) [(79, .t (num p))], Go.Ot.look (putL (.r 28 0 0) (boxO 81 (cls w8 (fillT (outC (initB key nonce c 3) (rndTo (initB key nonce c 3) 10) p) (List.replicate 64 0)))) L)⟩) (fun p => p ≤ 16) (fun p => 16 - p) (0) (a_le ?_) ?_ ?_
              · refine le_same ?_ ?_ ?_ <;> simp [-List.map_set, -List.map_replicate, -List.reduceReplicate, -List.map_map, -List.map_drop, -List.map_take, num, bol, txt, w8, w16, w32, w64, lst, cls, rowO, boxO, List.take_of_length_le, outC, fillT_nil]
              · (first | omega | simp)
              · intro p hp
                refine a_st ?_
                refine k_seq ?_
                refine k_region rfl ?_
                refine a_op ?_
                refine s_nil (r_false ?_)
                refine q_next ?_
                refine k_seq ?_
                refine a_if (fun hc5 => ?_) (fun hc5 => ?_)
                · (try simp only [Bool.and_eq_true, Bool.or_eq_true, Bool.or_eq_false_iff, Bool.not_eq_true', Bool.not_eq_false', dec_t, dec_f, Bool.and_eq_false_imp, beq_iff_eq, beq_eq_false_iff_ne, ne_eq] at hc5)
                  refine k_skip ?_
                  refine q_next ?_
                  refine k_seq ?_
                  refine k_block ?_
                  refine k_seq ?_
                  refine k_region rfl ?_
                  iterate 4 refine a_op ?_
                  refine s_nil (r_false ?_)
                  refine q_next ?_
                  refine k_seq ?_
                  refine k_region rfl ?_
                  iterate 6 refine a_op ?_
                  refine s_nil (r_false ?_)
                  refine q_next ?_
                  refine k_seq ?_
                  refine k_region rfl ?_
                  refine a_op ?_
                  refine s_nil (r_false ?_)
                  refine q_next ?_
                  refine k_block ?_
                  refine k_loopF (fun sl L (q : Nat) => ⟨setAll (setBad sl [0, 1, 2, 8, 9, 10, 11, 12, 13, 17, 18, 19, 20, 21, 22, 23, 24, 25, 26, 27, 28, 29, 30, 31, 32, 33, 34, 35, 36, 37, 38, 39, 40, 41, 42, 43, 44, 45, 46, 47, 48, 49, 50, 51, 52, 53, 54, 55, 56, 57, 58, 59, 60, 61, 62, 63, 64, 65, 66, 67, 68, 69, 70, 71, 72, 73, 74, 75, 76, 77, 80, 81, 82, 83, 84, 85, 86, 87, 89, 90, 91, 92, 93, 94, 95, 96, 97, 98, 99, 100, 101]) [(88, .t (num q))], Go.Ot.look (putL (.r 28 0 0) (boxO 81 (cls w8 (fillT (outC (initB key nonce c 3) (rndTo (initB key nonce c 3) 10) p ++ by4 ((initB key nonce c 3).getD p 0 + (rndTo (initB key nonce c 3) 10).getD p 0) q) (List.replicate 64 0)))) L)⟩) (fun q => q ≤ 4) (fun q => 4 - q) (0) (a_le ?_) ?_ ?_
                  · refine le_same ?_ ?_ ?_ <;> simp [-List.map_set, -List.map_replicate, -List.reduceReplicate, -List.map_map, -List.map_drop, -List.map_take, num, bol, txt, w8, w16, w32, w64, lst, cls, rowO, boxO, List.take_of_length_le, by4]
                  · (first | omega | simp)
                  · intro q hq
                    have hA : (outC (initB key nonce c 3) (rndTo (initB key nonce c 3) 10) p ++ by4 ((initB key nonce c 3).getD p 0 + (rndTo (initB key nonce c 3) 10).getD p 0) q).length = 4 * p + q := by simp [outC_len, by4_len]
                    have hfl : (fillT (outC (initB key nonce c 3) (rndTo (initB key nonce c 3) 10) p ++ by4 ((initB key nonce c 3).getD p 0 + (rndTo (initB key nonce c 3) 10).getD p 0) q) (List.replicate 64 0)).length = 64 := by rw [fillT_len (by rw [hA, List.length_replicate]; omega), List.length_replicate]
                    refine a_st ?_
                    refine k_seq ?_
                    refine k_region rfl ?_
                    refine a_op ?_
                    refine s_nil (r_false ?_)
                    refine q_next ?_
                    refine k_seq ?_
                    refine a_if (fun hc6 => ?_) (fun hc6 => ?_)
                    · (try simp only [Bool.and_eq_true, Bool.or_eq_true, Bool.or_eq_false_iff, Bool.not_eq_true', Bool.not_eq_false', dec_t, dec_f, Bool.and_eq_false_imp, beq_iff_eq, beq_eq_false_iff_ne, ne_eq] at hc6)
                      refine k_skip ?_
                      refine q_next ?_
                      refine k_seq ?_
                      refine k_block ?_
                      refine k_seq ?_
                      refine k_region rfl ?_
                      refine a_op ?_
                      refine a_op ?_
                      refine s_nil (r_false ?_)
                      refine q_next ?_
                      refine k_region rfl ?_
                      iterate 11 refine a_op ?_
                      refine s_nil (r_false ?_)
                      refine q_block (q_next ?_)
                      refine k_region rfl ?_
                      refine a_op ?_
                      refine a_op ?_
                      refine s_nil (r_false ?_)
                      have e1 : ((4 : Int) * (p : Int) + (q : Int)).toNat = 4 * p + q := by omega
                      have e2 : ((8 : Int) * (q : Int)).toNat = 8 * q := by omega
                      have hset := fun x : UInt8 => fillT_at (a := outC (initB key nonce c 3) (rndTo (initB key nonce c 3) 10) p ++ by4 ((initB key nonce c 3).getD p 0 + (rndTo (initB key nonce c 3) 10).getD p 0) q) (b := List.replicate 64 0) hA.symm (by rw [hA, List.length_replicate]; omega) x
                      simp only [List.getD_eq_getElem?_getD, List.append_assoc] at hset
                      refine q_loopF (q + 1) (a_le ?_) ?_ ?_
                      · refine le_same ?_ ?_ ?_ <;> simp [-List.map_set, -List.map_replicate, -List.reduceReplicate, -List.map_map, -List.map_drop, -List.map_take, num, bol, txt, w8, w16, w32, w64, lst, cls, rowO, boxO, List.take_of_length_le, by4, e1, e2, hset]
                      · (first | omega | (simp_all <;> omega))
                      · (first | omega | (simp only []; omega))
                    · (try simp only [Bool.and_eq_true, Bool.or_eq_true, Bool.or_eq_false_iff, Bool.not_eq_true', Bool.not_eq_false', dec_t, dec_f, Bool.and_eq_false_imp, beq_iff_eq, beq_eq_false_iff_ne, ne_eq] at hc6)
                      refine k_exit ?_
                      refine q_seq_exit (q_loopF_exit (q_block_exit (q_block (q_next ?_))))
                      refine k_region rfl ?_
                      refine a_op ?_
                      refine a_op ?_
                      refine s_nil (r_false ?_)
                      obtain rfl : q = 4 := by omega
                      refine q_loopF (p + 1) (a_le ?_) ?_ ?_
                      · refine le_same ?_ ?_ ?_ <;> simp [-List.map_set, -List.map_replicate, -List.reduceReplicate, -List.map_map, -List.map_drop, -List.map_take, num, bol, txt, w8, w16, w32, w64, lst, cls, rowO, boxO, List.take_of_length_le, outC]
                      · (first | omega | (simp_all <;> omega))
                      · (first | omega | (simp only []; omega))
                · (try simp only [Bool.and_eq_true, Bool.or_eq_true, Bool.or_eq_false_iff, Bool.not_eq_true', Bool.not_eq_false', dec_t, dec_f, Bool.and_eq_false_imp, beq_iff_eq, beq_eq_false_iff_ne, ne_eq] at hc5)
                  refine k_exit ?_
                  refine q_seq_exit (q_loopF_exit (q_block_exit (q_next ?_)))
                  refine k_seq ?_
                  refine k_region rfl ?_
                  obtain rfl : p = 16 := by omega
                  have h64 := outC_len (initB key nonce c 3) (rndTo (initB key nonce c 3) 10) 16
                  rw [fillT_full (a := outC (initB key nonce c 3) (rndTo (initB key nonce c 3) 10) 16) (b := List.replicate 64 0) (by rw [h64]; simp)]
                  refine a_op ?_
                  refine a_op ?_
                  refine s_nil (r_false ?_)
                  refine q_next ?_
                  refine k_ret ?_
                  refine ⟨.inr rfl, a_ret [] (by rw [results36]) ?_ ?_ ?_⟩ <;> simp [-List.map_set, -List.map_replicate, -List.reduceReplicate, -List.map_map, -List.map_drop, -List.map_take, num, bol, txt, w8, w16, w32, w64, lst, cls, rowO, boxO, List.take_of_length_le, chB]

end Go.Proofs.Try
