import Derived.Test.YtcajgckomhhglaaSCR
import Derived.Test.YtcajgckomhhglaaOtAs
set_option maxHeartbeats 4000000
set_option maxRecDepth 100000
set_option linter.unusedVariables false
set_option linter.unusedSimpArgs false
namespace Go.Proofs.Try
open Go Go.Ot
attribute [local irreducible] wpK wpS seqK blockK loopF regK meetK OpSpec Le addL turnL stepL quarL colTo diaTo rndTo wrd initA initB by4 outC chB fillT
theorem refblock_good (Γ : Gl) (key nonce : List UInt8) (c : Nat) (hk : key.length = 32) (hn : nonce.length = 12) (hc : c < 4294967296) : Go.Ot.Good Γ prog 22 [.t (txt key), .t (txt nonce), .t (num c)] [] (.t (txt (chB key nonce c))) [] [] := by
  refine a_body F.mix func22 (by rfl) ntmps22 ?_
  refine k_seq ?_
  refine k_region rfl ?_
  refine a_op ?_
  refine s_nil (r_false ?_)
  refine q_next ?_
  refine k_seq ?_
  refine k_seq ?_
  refine k_region rfl ?_
  have hk2 : ((key.length : Int) = 32) = True := eq_true (by omega)
  iterate 4 refine a_op ?_
  refine a_go ?_
  refine a_go ?_
  refine a_go ?_
  refine a_op ?_
  refine a_op ?_
  refine a_go ?_
  refine a_go ?_
  refine a_op ?_
  refine a_op ?_
  refine a_go ?_
  refine a_go ?_
  refine a_op ?_
  refine s_nil (r_false ?_)
  refine q_next ?_
  refine a_false ?_
  refine k_skip ?_
  refine q_next ?_
  refine k_seq ?_
  refine k_region rfl ?_
  iterate 3 refine a_op ?_
  refine s_nil (r_false ?_)
  refine q_next ?_
  refine k_seq ?_
  refine k_region rfl ?_
  refine a_op ?_
  refine s_nil (r_false ?_)
  refine q_next ?_
  refine k_seq ?_
  refine k_seq ?_
  refine k_region rfl ?_
  refine a_op ?_
  refine s_nil (r_false ?_)
  refine q_next ?_
  refine k_block ?_
  refine k_loopF (fun sl L (i : Nat) => ⟨setAll (setBad sl [0, 18, 19, 20, 21, 22, 23, 24, 25, 26, 27, 28, 29, 30, 31, 32, 33, 34, 35, 36, 37, 38, 39, 40, 41, 42, 43, 44, 45]) [(9, .t (num i))], Go.Ot.look (putL (.r 4 0 0) (boxO 61 (cls w32 (initA key i))) L)⟩) (fun i => i ≤ 12) (fun i => 12 - i) (0) (a_le ?_) ?_ ?_
  · refine le_same ?_ ?_ ?_ <;> simp [-List.map_set, -List.map_replicate, -List.reduceReplicate, -List.map_map, -List.map_drop, -List.map_take, num, bol, txt, w8, w16, w32, w64, lst, cls, rowO, boxO, List.take_of_length_le, initA]
  · (first | omega | simp)
  · intro i hi
    refine a_st ?_
    refine k_seq ?_
    refine k_seq ?_
    refine k_region rfl ?_
    refine a_op ?_
    refine a_op ?_
    refine s_nil (r_false ?_)
    refine q_next ?_
    refine a_if (fun hc1 => ?_) (fun hc1 => ?_)
    · (try simp only [Bool.and_eq_true, Bool.or_eq_true, Bool.or_eq_false_iff, Bool.not_eq_true', Bool.not_eq_false', dec_t, dec_f, Bool.and_eq_false_imp, beq_iff_eq, beq_eq_false_iff_ne, ne_eq] at hc1)
      refine k_skip ?_
      refine q_next ?_
      refine k_seq ?_
      refine k_block ?_
      refine k_region rfl ?_
      iterate 4 refine a_op ?_
      refine a_call [] false (low_good Γ (E16 ++ key) (4 * i) (by simp [E16]; omega) (by simp [E16]; omega)) ?_
      refine a_op ?_
      refine a_op ?_
      refine s_nil (r_false ?_)
      refine q_block (q_next ?_)
      refine k_region rfl ?_
      iterate 3 refine a_op ?_
      refine s_nil (r_false ?_)
      refine q_loopF (i + 1) (a_le ?_) ?_ ?_
      · refine le_same ?_ ?_ ?_ <;> simp [-List.map_set, -List.map_replicate, -List.reduceReplicate, -List.map_map, -List.map_drop, -List.map_take, num, bol, txt, w8, w16, w32, w64, lst, cls, rowO, boxO, List.take_of_length_le, initA]
      · (first | omega | (simp_all <;> omega))
      · (first | omega | (simp only []; omega))
    · (try simp only [Bool.and_eq_true, Bool.or_eq_true, Bool.or_eq_false_iff, Bool.not_eq_true', Bool.not_eq_false', dec_t, dec_f, Bool.and_eq_false_imp, beq_iff_eq, beq_eq_false_iff_ne, ne_eq] at hc1)
      refine k_exit ?_
      refine q_seq_exit (q_loopF_exit (q_block_exit (q_next ?_)))
      refine k_seq ?_
      refine k_region rfl ?_
      refine a_op ?_
      refine a_cv32 ?_
      refine a_op ?_
      refine a_op ?_
      refine s_nil (r_false ?_)
      refine q_next ?_
      refine k_seq ?_
      refine k_seq ?_
      refine k_region rfl ?_
      refine a_op ?_
      refine s_nil (r_false ?_)
      refine q_next ?_
      refine k_block ?_
      obtain rfl : i = 12 := by omega
      refine k_loopF (fun sl L (j : Nat) => ⟨setAll (setBad sl [0, 2, 7, 9, 18, 19, 20, 21, 22, 23, 24, 25, 26, 27, 28, 29, 30, 31, 32, 33, 34, 35, 36, 37, 38, 39, 40, 41, 42, 43, 44, 45, 46, 47, 48, 49, 50, 51, 52, 53, 54, 55, 56, 57, 58, 59]) [(10, .t (num j))], Go.Ot.look (putL (.r 4 0 0) (boxO 61 (cls w32 (initB key nonce c j))) L)⟩) (fun j => j ≤ 3) (fun j => 3 - j) (0) (a_le ?_) ?_ ?_
      · refine le_same ?_ ?_ ?_ <;> simp [-List.map_set, -List.map_replicate, -List.reduceReplicate, -List.map_map, -List.map_drop, -List.map_take, num, bol, txt, w8, w16, w32, w64, lst, cls, rowO, boxO, List.take_of_length_le, initB]
      · (first | omega | simp)
      · intro j hj
        refine a_st ?_
        refine k_seq ?_
        refine k_seq ?_
        refine k_region rfl ?_
        refine a_op ?_
        refine a_op ?_
        refine s_nil (r_false ?_)
        refine q_next ?_
        refine a_if (fun hc2 => ?_) (fun hc2 => ?_)
        · (try simp only [Bool.and_eq_true, Bool.or_eq_true, Bool.or_eq_false_iff, Bool.not_eq_true', Bool.not_eq_false', dec_t, dec_f, Bool.and_eq_false_imp, beq_iff_eq, beq_eq_false_iff_ne, ne_eq] at hc2)
          refine k_skip ?_
          refine q_next ?_
          refine k_seq ?_
          refine k_block ?_
          refine k_region rfl ?_
          iterate 5 refine a_op ?_
          refine a_call [] false (low_good Γ nonce (4 * j) (by omega) (by omega)) ?_
          refine a_op ?_
          refine a_op ?_
          (try rw [show ((13 : Int) + (j : Int)).toNat = 13 + j from by omega])
          refine s_nil (r_false ?_)
          refine q_block (q_next ?_)
          refine k_region rfl ?_
          iterate 3 refine a_op ?_
          refine s_nil (r_false ?_)
          have e1 : ((13 : Int) + (j : Int)).toNat = 13 + j := by omega
          refine q_loopF (j + 1) (a_le ?_) ?_ ?_
          · refine le_same ?_ ?_ ?_ <;> simp [-List.map_set, -List.map_replicate, -List.reduceReplicate, -List.map_map, -List.map_drop, -List.map_take, num, bol, txt, w8, w16, w32, w64, lst, cls, rowO, boxO, List.take_of_length_le, initB, e1]
          · (first | omega | (simp_all <;> omega))
          · (first | omega | (simp only []; omega))
        · (try simp only [Bool.and_eq_true, Bool.or_eq_true, Bool.or_eq_false_iff, Bool.not_eq_true', Bool.not_eq_false', dec_t, dec_f, Bool.and_eq_false_imp, beq_iff_eq, beq_eq_false_iff_ne, ne_eq] at hc2)
          refine k_exit ?_
          refine q_seq_exit (q_loopF_exit (q_block_exit (q_next ?_)))
          refine k_seq ?_
          refine k_region rfl ?_
          obtain rfl : j = 3 := by omega
          refine a_op ?_
          refine a_by (spec_sliceArr rfl underlying61 (by kernel_rfl) (sz := 1) (by kernel_rfl) (ob := boxO 61 (cls w32 (initB key nonce c 3))) rfl rfl rfl (by simp [boxO, looseT]) (by simp [boxO, cls, initB_len]) (by decide) (by decide)) ?_
          refine a_op ?_
          refine a_op ?_
          refine s_nil (r_false ?_)
          refine q_next ?_
          refine k_seq ?_
          refine k_seq ?_
          refine k_region rfl ?_
          refine a_op ?_
          refine s_nil (r_false ?_)
          refine q_next ?_
          refine k_block ?_
          have hB0 : initB key nonce c 3 ≠ [] := by intro e; have := initB_len key nonce c 3; rw [e] at this; simp at this
          refine k_loopF (fun sl L (n : Nat) => ⟨setAll (setBad sl [0, 1, 2, 7, 9, 10, 13, 14, 18, 19, 20, 21, 22, 23, 24, 25, 26, 27, 28, 29, 30, 31, 32, 33, 34, 35, 36, 37, 38, 39, 40, 41, 42, 43, 44, 45, 46, 47, 48, 49, 50, 51, 52, 53, 54, 55, 56, 57, 58, 59, 60, 61, 62, 63, 64, 65, 66, 67, 68, 69, 70, 71, 72, 73, 74, 75, 76, 77, 78, 79, 80, 81, 82, 83, 84, 85, 86, 87, 88, 89, 90, 91, 92, 93, 94, 95, 96, 97, 98]) [(12, .t (num n))], Go.Ot.look (putL (.r 14 0 0) (boxO 60 (cls w32 (rndTo (initB key nonce c 3) n))) L)⟩) (fun n => n ≤ 10) (fun n => 10 - n) (0) (a_le ?_) ?_ ?_
          · refine le_same ?_ ?_ ?_ <;> simp [-List.map_set, -List.map_replicate, -List.reduceReplicate, -List.map_map, -List.map_drop, -List.map_take, num, bol, txt, w8, w16, w32, w64, lst, cls, rowO, boxO, List.take_of_length_le, rndTo, looseT, Nm.isP, hB0]
          · (first | omega | simp)
          · intro n hn
            refine a_st ?_
            refine k_seq ?_
            refine k_seq ?_
            refine k_region rfl ?_
            refine a_op ?_
            refine a_op ?_
            refine s_nil (r_false ?_)
            refine q_next ?_
            refine a_if (fun hc3 => ?_) (fun hc3 => ?_)
            · (try simp only [Bool.and_eq_true, Bool.or_eq_true, Bool.or_eq_false_iff, Bool.not_eq_true', Bool.not_eq_false', dec_t, dec_f, Bool.and_eq_false_imp, beq_iff_eq, beq_eq_false_iff_ne, ne_eq] at hc3)
              refine k_skip ?_
              refine q_next ?_
              refine k_seq ?_
              refine k_block ?_
              refine k_seq ?_
              refine k_seq ?_
              refine k_region rfl ?_
              refine a_op ?_
              refine s_nil (r_false ?_)
              refine q_next ?_
              refine k_block ?_
              refine k_loopF (fun sl L (a : Nat) => ⟨setAll (setBad sl [0, 1, 2, 7, 9, 10, 18, 19, 20, 21, 22, 23, 24, 25, 26, 27, 28, 29, 30, 31, 32, 33, 34, 35, 36, 37, 38, 39, 40, 41, 42, 43, 44, 45, 46, 47, 48, 49, 50, 51, 52, 53, 54, 55, 56, 57, 58, 59, 60, 61, 62, 63, 64, 67, 68, 69, 70, 71, 72, 73, 74, 75, 76, 77, 78, 79]) [(13, .t (num a))], Go.Ot.look (putL (.r 14 0 0) (boxO 60 (cls w32 (colTo (rndTo (initB key nonce c 3) n) a))) L)⟩) (fun a => a ≤ 4) (fun a => 4 - a) (0) (a_le ?_) ?_ ?_
              · refine le_same ?_ ?_ ?_ <;> simp [-List.map_set, -List.map_replicate, -List.reduceReplicate, -List.map_map, -List.map_drop, -List.map_take, num, bol, txt, w8, w16, w32, w64, lst, cls, rowO, boxO, List.take_of_length_le, colTo]
              · (first | omega | simp)
              · intro a ha
                refine a_st ?_
                refine k_seq ?_
                refine k_seq ?_
                refine k_region rfl ?_
                refine a_op ?_
                refine a_op ?_
                refine s_nil (r_false ?_)
                refine q_next ?_
                refine a_if (fun hc4 => ?_) (fun hc4 => ?_)
                · (try simp only [Bool.and_eq_true, Bool.or_eq_true, Bool.or_eq_false_iff, Bool.not_eq_true', Bool.not_eq_false', dec_t, dec_f, Bool.and_eq_false_imp, beq_iff_eq, beq_eq_false_iff_ne, ne_eq] at hc4)
                  refine k_skip ?_
                  refine q_next ?_
                  refine k_seq ?_
                  refine k_block ?_
                  refine k_region rfl ?_
                  iterate 8 refine a_op ?_
                  refine a_callp [.r 14 0 0] [] [] false (refq_good Γ (colTo (rndTo (initB key nonce c 3) n) a) (a) (4 + a) (8 + a) (12 + a) (by simp [colTo_len, diaTo_len, rndTo_len, initB_len]) (by omega) (by omega) (by omega) (by omega)) ?_
                  refine s_nil (r_false ?_)
                  refine q_block (q_next ?_)
                  refine k_region rfl ?_
                  iterate 3 refine a_op ?_
                  refine s_nil (r_false ?_)
                  refine q_loopF (a + 1) (a_le ?_) ?_ ?_
                  · refine le_same ?_ ?_ ?_ <;> simp [-List.map_set, -List.map_replicate, -List.reduceReplicate, -List.map_map, -List.map_drop, -List.map_take, num, bol, txt, w8, w16, w32, w64, lst, cls, rowO, boxO, List.take_of_length_le, colTo]
                  · (first | omega | (simp_all <;> omega))
                  · (first | omega | (simp only []; omega))
                · (try simp only [Bool.and_eq_true, Bool.or_eq_true, Bool.or_eq_false_iff, Bool.not_eq_true', Bool.not_eq_false', dec_t, dec_f, Bool.and_eq_false_imp, beq_iff_eq, beq_eq_false_iff_ne, ne_eq] at hc4)
                  refine k_exit ?_
                  refine q_seq_exit (q_loopF_exit (q_block_exit (q_next ?_)))
                  refine k_seq ?_
                  refine k_region rfl ?_
                  refine a_op ?_
                  refine s_nil (r_false ?_)
                  refine q_next ?_
                  refine k_block ?_
                  obtain rfl : a = 4 := by omega
                  refine k_loopF (fun sl L (b : Nat) => ⟨setAll (setBad sl [0, 1, 2, 7, 9, 10, 18, 19, 20, 21, 22, 23, 24, 25, 26, 27, 28, 29, 30, 31, 32, 33, 34, 35, 36, 37, 38, 39, 40, 41, 42, 43, 44, 45, 46, 47, 48, 49, 50, 51, 52, 53, 54, 55, 56, 57, 58, 59, 60, 61, 62, 63, 64, 67, 68, 69, 70, 71, 72, 73, 74, 75, 76, 77, 78, 79, 80, 81, 82, 83, 84, 85, 86, 87, 88, 89, 90, 91, 92, 93, 94, 95, 96, 97, 98]) [(14, .t (num b))], Go.Ot.look (putL (.r 14 0 0) (boxO 60 (cls w32 (diaTo (colTo (rndTo (initB key nonce c 3) n) 4) b))) L)⟩) (fun b => b ≤ 4) (fun b => 4 - b) (0) (a_le ?_) ?_ ?_
                  · refine le_same ?_ ?_ ?_ <;> simp [-List.map_set, -List.map_replicate, -List.reduceReplicate, -List.map_map, -List.map_drop, -List.map_take, num, bol, txt, w8, w16, w32, w64, lst, cls, rowO, boxO, List.take_of_length_le, diaTo]
                  · (first | omega | simp)
                  · intro b hb
                    refine a_st ?_
                    refine k_seq ?_
                    refine k_seq ?_
                    refine k_region rfl ?_
                    refine a_op ?_
                    refine a_op ?_
                    refine s_nil (r_false ?_)
                    refine q_next ?_
                    refine a_if (fun hc5 => ?_) (fun hc5 => ?_)
                    · (try simp only [Bool.and_eq_true, Bool.or_eq_true, Bool.or_eq_false_iff, Bool.not_eq_true', Bool.not_eq_false', dec_t, dec_f, Bool.and_eq_false_imp, beq_iff_eq, beq_eq_false_iff_ne, ne_eq] at hc5)
                      refine k_skip ?_
                      refine q_next ?_
                      refine k_seq ?_
                      refine k_block ?_
                      refine k_region rfl ?_
                      iterate 14 refine a_op ?_
                      refine a_callp [.r 14 0 0] [] [] false (refq_good Γ (diaTo (colTo (rndTo (initB key nonce c 3) n) 4) b) (b) (4 + (b + 1) % 4) (8 + (b + 2) % 4) (12 + (b + 3) % 4) (by simp [colTo_len, diaTo_len, rndTo_len, initB_len]) (by omega) (by omega) (by omega) (by omega)) ?_
                      refine s_nil (r_false ?_)
                      refine q_block (q_next ?_)
                      refine k_region rfl ?_
                      iterate 3 refine a_op ?_
                      refine s_nil (r_false ?_)
                      refine q_loopF (b + 1) (a_le ?_) ?_ ?_
                      · refine le_same ?_ ?_ ?_ <;> simp [-List.map_set, -List.map_replicate, -List.reduceReplicate, -List.map_map, -List.map_drop, -List.map_take, num, bol, txt, w8, w16, w32, w64, lst, cls, rowO, boxO, List.take_of_length_le, diaTo]
                      · (first | omega | (simp_all <;> omega))
                      · (first | omega | (simp only []; omega))
                    · (try simp only [Bool.and_eq_true, Bool.or_eq_true, Bool.or_eq_false_iff, Bool.not_eq_true', Bool.not_eq_false', dec_t, dec_f, Bool.and_eq_false_imp, beq_iff_eq, beq_eq_false_iff_ne, ne_eq] at hc5)
                      refine k_exit ?_
                      refine q_seq_exit (q_loopF_exit (q_block_exit (q_block (q_next ?_))))
                      refine k_region rfl ?_
                      iterate 3 refine a_op ?_
                      refine s_nil (r_false ?_)
                      obtain rfl : b = 4 := by omega
                      refine q_loopF (n + 1) (a_le ?_) ?_ ?_
                      · refine le_same ?_ ?_ ?_ <;> simp [-List.map_set, -List.map_replicate, -List.reduceReplicate, -List.map_map, -List.map_drop, -List.map_take, num, bol, txt, w8, w16, w32, w64, lst, cls, rowO, boxO, List.take_of_length_le, rndTo]
                      · (first | omega | (simp_all <;> omega))
                      · (first | omega | (simp only []; omega))
            · (try simp only [Bool.and_eq_true, Bool.or_eq_true, Bool.or_eq_false_iff, Bool.not_eq_true', Bool.not_eq_false', dec_t, dec_f, Bool.and_eq_false_imp, beq_iff_eq, beq_eq_false_iff_ne, ne_eq] at hc3)
              refine k_exit ?_
              refine q_seq_exit (q_loopF_exit (q_block_exit (q_next ?_)))
              refine k_seq ?_
              refine k_region rfl ?_
              refine a_op ?_
              refine s_nil (r_false ?_)
              refine q_next ?_
              refine k_seq ?_
              refine k_seq ?_
              refine k_region rfl ?_
              refine a_op ?_
              refine s_nil (r_false ?_)
              refine q_next ?_
              refine k_block ?_
              obtain rfl : n = 10 := by omega
              refine k_loopF (fun sl L (p : Nat) => ⟨setAll (setBad sl [0, 1, 2, 7, 9, 10, 12, 13, 14, 17, 18, 19, 20, 21, 22, 23, 24, 25, 26, 27, 28, 29, 30, 31, 32, 33, 34, 35, 36, 37, 38, 39, 40, 41, 42, 43, 44, 45, 46, 47, 48, 49, 50, 51, 52, 53, 54, 55, 56, 57, 58, 59, 60, 61, 62, 63, 64, 65, 66, 67, 68, 69, 70, 71, 72, 73, 74, 75, 76, 77, 78, 79, 80, 81, 82, 83, 84, 85, 86, 87, 88, 89, 90, 91, 92, 93, 94, 95, 96, 97, 98, 99, 100, 101, 102, 103, 104, 105, 106, 107, 108, 109, 110, 111, 112, 113, 114, 115, 116, 117, 118, 119, 120, 121, 122, 123, 124]) [(15, .msl (.n 15) 0 (4 * p) 1), (16, .t (num p))], Go.Ot.look (putL (.n 15) (rowO 5 w8 (outC (initB key nonce c 3) (rndTo (initB key nonce c 3) 10) p)) L)⟩) (fun p => p ≤ 16) (fun p => 16 - p) (0) (a_le ?_) ?_ ?_
              · refine le_of [(.r 4 0 0, .r 4 0 0), (.r 14 0 0, .r 14 0 0)] ?_ ?_ ?_ <;> simp [-List.map_set, -List.map_replicate, -List.reduceReplicate, -List.map_map, -List.map_drop, -List.map_take, num, bol, txt, w8, w16, w32, w64, lst, cls, rowO, boxO, List.take_of_length_le, outC]
              · (first | omega | simp)
              · intro p hp
                have hcm := UInt32.add_comm ((rndTo (initB key nonce c 3) 10).getD p 0) ((initB key nonce c 3).getD p 0)
                refine a_st ?_
                refine k_seq ?_
                refine k_seq ?_
                refine k_region rfl ?_
                refine a_op ?_
                refine a_op ?_
                refine s_nil (r_false ?_)
                refine q_next ?_
                refine a_if (fun hc6 => ?_) (fun hc6 => ?_)
                · (try simp only [Bool.and_eq_true, Bool.or_eq_true, Bool.or_eq_false_iff, Bool.not_eq_true', Bool.not_eq_false', dec_t, dec_f, Bool.and_eq_false_imp, beq_iff_eq, beq_eq_false_iff_ne, ne_eq] at hc6)
                  refine k_skip ?_
                  refine q_next ?_
                  refine k_seq ?_
                  refine k_block ?_
                  refine k_seq ?_
                  refine k_region rfl ?_
                  iterate 8 refine a_opd ?_
                  rw [hcm]
                  refine a_opd ?_
                  refine s_nil (r_true (by kernel_rfl) ?_)
                  refine q_next ?_
                  refine k_region rfl ?_
                  iterate 15 refine a_op ?_
                  refine s_nil (r_false ?_)
                  refine q_block (q_next ?_)
                  refine k_region rfl ?_
                  iterate 3 refine a_op ?_
                  refine s_nil (r_false ?_)
                  refine q_loopF (p + 1) (a_le ?_) ?_ ?_
                  · refine le_same ?_ ?_ ?_ <;> simp [-List.map_set, -List.map_replicate, -List.reduceReplicate, -List.map_map, -List.map_drop, -List.map_take, num, bol, txt, w8, w16, w32, w64, lst, cls, rowO, boxO, List.take_of_length_le, outC, by4_four, Nat.mul_add]
                  · (first | omega | (simp_all <;> omega))
                  · (first | omega | (simp only []; omega))
                · (try simp only [Bool.and_eq_true, Bool.or_eq_true, Bool.or_eq_false_iff, Bool.not_eq_true', Bool.not_eq_false', dec_t, dec_f, Bool.and_eq_false_imp, beq_iff_eq, beq_eq_false_iff_ne, ne_eq] at hc6)
                  refine k_exit ?_
                  refine q_seq_exit (q_loopF_exit (q_block_exit (q_next ?_)))
                  refine k_seq ?_
                  refine k_region rfl ?_
                  obtain rfl : p = 16 := by omega
                  refine a_op ?_
                  first | refine a_text ?_ | refine a_texts ?_
                  refine a_op ?_
                  refine s_nil (r_false ?_)
                  refine q_next ?_
                  refine k_ret ?_
                  refine ⟨.inr rfl, a_ret [] (by rw [results22]) ?_ ?_ ?_⟩ <;> simp [-List.map_set, -List.map_replicate, -List.reduceReplicate, -List.map_map, -List.map_drop, -List.map_take, num, bol, txt, w8, w16, w32, w64, lst, cls, rowO, boxO, List.take_of_length_le, chB]

end Go.Proofs.Try
