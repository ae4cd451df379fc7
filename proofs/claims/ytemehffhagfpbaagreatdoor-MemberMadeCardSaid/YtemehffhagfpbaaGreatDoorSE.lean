/- Contracts of this program's functions. -/
import Derived.Test.YtemehffhagfpbaaGreatDoorSD
import Derived.Test.YtemehffhagfpbaaGreatDoorSH
import Derived.Test.YtemehffhagfpbaaGreatDoorOtD
set_option maxHeartbeats 4000000
set_option maxRecDepth 100000
set_option linter.unusedVariables false
set_option linter.unusedSimpArgs false
namespace Go.Proofs.Tryz
open Go Go.Ot
attribute [local irreducible] wpK wpS seqK blockK loopF regK meetK OpSpec Le sched wordTo rnds addTo rotr chunks takeB be64 outB sha padB
theorem join_good (Γ : Gl) (xs : List (List UInt8)) (hn : xs.length ≤ 140737488355328) (hl : xs.flatten.length ≤ 140737488355328) : Go.Ot.Good Γ prog 51 [.t (lst txt xs), .t (txt [])] [] (.t (txt xs.flatten)) [] [] := good_join Tryz.strings_Join_none Tryz.strings_Join xs hn hl
theorem repeat_good (Γ : Gl) (b : UInt8) (n : Nat) (hn : n ≤ 140737488355328) : Go.Ot.Good Γ prog 52 [.t (txt [b]), .t (num n)] [] (.t (txt (List.replicate n b))) [] [] := good_repeat Tryz.strings_Repeat b n hn
theorem sum_good (Γ : Gl) (xs : List (List UInt8)) (hn : xs.length ≤ 1000000000) (hl : xs.flatten.length ≤ 1000000000) : Go.Ot.Good Γ prog 31 [.t (lst txt xs)] [] (.t (txt (sha xs.flatten))) [] [] := by
 refine a_body F.mix func31 (by rfl) ntmps31 ?_
 refine k_seq ?_
 refine k_region rfl ?_
 refine a_op ?_
 refine s_nil (r_false ?_)
 refine q_next ?_
 refine k_seq ?_
 refine k_region rfl ?_
 refine a_op ?_
 refine a_call [] false (join_good Γ xs (by omega) (by omega)) ?_
 refine a_op ?_
 refine s_nil (r_false ?_)
 refine q_next ?_
 refine k_seq ?_
 refine k_region rfl ?_
 refine a_op ?_
 refine a_op ?_
 refine a_cv64 ?_
 refine a_op ?_
 refine a_op ?_
 refine s_nil (r_false ?_)
 refine q_next ?_
 refine k_seq ?_
 refine k_region rfl ?_
 iterate 3 refine a_op ?_
 refine s_nil (r_false ?_)
 refine q_next ?_
 refine k_seq ?_
 refine k_region rfl ?_
 iterate 6 refine a_op ?_
 refine a_call [] false (repeat_good Γ 0 ((120 - (xs.flatten.length + 1) % 64) % 64) (by omega)) ?_
 refine a_op ?_
 refine a_op ?_
 refine s_nil (r_false ?_)
 refine q_next ?_
 refine k_seq ?_
 refine k_seq ?_
 refine k_region rfl ?_
 refine a_op ?_
 refine s_nil (r_false ?_)
 refine q_next ?_
 refine k_block ?_
 refine k_loopF (fun sl L (j : Nat) => ⟨setAll (setBad sl [0, 11, 12, 13, 14, 15, 16, 17, 18, 19, 20, 21, 22, 23, 24, 25, 26, 27, 28, 29, 30, 31, 32, 33, 34, 35, 36, 37, 38, 39]) [(5, .t (num (7 - (j : Int)))), (3, .t (txt (xs.flatten ++ [128] ++ List.replicate ((120 - (xs.flatten.length + 1) % 64) % 64) 0 ++ be64 (UInt64.ofInt xs.flatten.length * 8) j)))], Go.Ot.look (L)⟩) (fun j => j ≤ 8) (fun j => 8 - j) (0) (a_le ?_) ?_ ?_
 ·refine le_same ?_ ?_ ?_ <;> simp [-List.map_set, -List.map_replicate, -List.reduceReplicate, -List.map_map, -List.map_drop, -List.map_take, num, bol, txt, w8, w16, w32, w64, lst, cls, rowO, boxO, List.take_of_length_le, be64] <;> (try omega)
 ·(first | omega | simp)
 ·intro j hj
  refine a_st ?_
  refine k_seq ?_
  refine k_seq ?_
  refine k_region rfl ?_
  refine a_op ?_
  refine a_op ?_
  refine s_nil (r_false ?_)
  refine q_next ?_
  refine a_if (fun hc0 => ?_) (fun hc0 => ?_)
  ·(try simp only [Bool.and_eq_true, Bool.or_eq_true, Bool.or_eq_false_iff, Bool.not_eq_true', Bool.not_eq_false', dec_t, dec_f, Bool.and_eq_false_imp, beq_iff_eq, beq_eq_false_iff_ne, ne_eq] at hc0)
   refine k_skip ?_
   refine q_next ?_
   refine k_seq ?_
   refine k_block ?_
   refine k_region rfl ?_
   iterate 7 refine a_op ?_
   first | refine a_text ?_ | refine a_texts ?_
   refine a_op ?_
   refine a_op ?_
   refine s_nil (r_false ?_)
   refine q_block (q_next ?_)
   refine k_region rfl ?_
   iterate 3 refine a_op ?_
   refine s_nil (r_false ?_)
   refine q_loopF (j + 1) (a_le ?_) ?_ ?_
   ·refine le_same ?_ ?_ ?_ <;> simp [-List.map_set, -List.map_replicate, -List.reduceReplicate, -List.map_map, -List.map_drop, -List.map_take, num, bol, txt, w8, w16, w32, w64, lst, cls, rowO, boxO, List.take_of_length_le, be64] <;> (try omega)
   ·(first | omega | (simp_all <;> omega))
   ·(first | omega | (simp only []; omega))
  ·(try simp only [Bool.and_eq_true, Bool.or_eq_true, Bool.or_eq_false_iff, Bool.not_eq_true', Bool.not_eq_false', dec_t, dec_f, Bool.and_eq_false_imp, beq_iff_eq, beq_eq_false_iff_ne, ne_eq] at hc0)
   refine k_exit ?_
   refine q_seq_exit (q_loopF_exit (q_block_exit (q_next ?_)))
   refine k_seq ?_
   refine k_region rfl ?_
   refine a_call [] false (roots_good Γ) ?_
   refine a_call [] false (cubes_good Γ) ?_
   iterate 4 refine a_op ?_
   refine s_nil (r_false ?_)
   refine q_next ?_
   refine k_seq ?_
   refine k_block ?_
   obtain rfl : j = 8 := by omega
   refine k_loopF (fun sl L (i : Nat) => ⟨setAll (setBad sl [0, 4, 5, 11, 12, 13, 14, 15, 16, 17, 18, 19, 20, 21, 22, 23, 24, 25, 26, 27, 28, 29, 30, 31, 32, 33, 34, 35, 36, 37, 38, 39, 40, 41, 42, 43, 44, 45, 46, 47, 48, 49, 50]) [(3, .t (txt ((padB xs.flatten).drop (64 * i))))], Go.Ot.look (putL (.r 9 2 0) (boxO 92 (cls w32 (chunks (padB xs.flatten) i))) L)⟩) (fun i => 64 * i ≤ (padB xs.flatten).length) (fun i => (padB xs.flatten).length - i) (0) (a_le ?_) ?_ ?_
   ·refine le_same ?_ ?_ ?_ <;> simp [-List.map_set, -List.map_replicate, -List.reduceReplicate, -List.map_map, -List.map_drop, -List.map_take, num, bol, txt, w8, w16, w32, w64, lst, cls, rowO, boxO, List.take_of_length_le, chunks, padB]
   ·(first | omega | simp)
   ·intro i hi
    have hp := padB_len xs.flatten
    have hc := chunks_len (padB xs.flatten) i
    refine a_st ?_
    refine k_seq ?_
    refine k_seq ?_
    refine k_region rfl ?_
    refine a_op ?_
    refine a_op ?_
    refine s_nil (r_false ?_)
    refine q_next ?_
    refine a_if (fun hc1 => ?_) (fun hc1 => ?_)
    ·(try simp only [Bool.and_eq_true, Bool.or_eq_true, Bool.or_eq_false_iff, Bool.not_eq_true', Bool.not_eq_false', dec_t, dec_f, Bool.and_eq_false_imp, beq_iff_eq, beq_eq_false_iff_ne, ne_eq] at hc1)
     have h64 := drop_more hp hc1
     refine k_skip ?_
     refine q_next ?_
     refine k_seq ?_
     refine k_block ?_
     refine k_region rfl ?_
     have ht := takeB_len (chunks (padB xs.flatten) i) (((padB xs.flatten).drop (64 * i)).take 64) hc
     iterate 4 refine a_opd ?_
     refine a_calld [] false (take_good Γ (chunks (padB xs.flatten) i) (((padB xs.flatten).drop (64 * i)).take 64) (chunks_len _ _) (by simp; omega)) ?_
     refine a_opd ?_
     refine s_nil (r_true (by kernel_rfl) ?_)
     refine q_block (q_next ?_)
     refine k_region rfl ?_
     iterate 3 refine a_op ?_
     refine s_nil (r_false ?_)
     refine q_loopF (i + 1) (a_le ?_) ?_ ?_
     ·refine le_same ?_ ?_ ?_ <;> simp [-List.map_set, -List.map_replicate, -List.reduceReplicate, -List.map_map, -List.map_drop, -List.map_take, num, bol, txt, w8, w16, w32, w64, lst, cls, rowO, boxO, List.take_of_length_le, chunks, Nat.mul_add]
     ·(first | omega | (simp_all <;> omega))
     ·(first | omega | (simp only []; omega))
    ·(try simp only [Bool.and_eq_true, Bool.or_eq_true, Bool.or_eq_false_iff, Bool.not_eq_true', Bool.not_eq_false', dec_t, dec_f, Bool.and_eq_false_imp, beq_iff_eq, beq_eq_false_iff_ne, ne_eq] at hc1)
     have hd := drop_done hp hi hc1
     refine k_exit ?_
     refine q_seq_exit (q_loopF_exit (q_block_exit (q_next ?_)))
     refine k_seq ?_
     refine k_region rfl ?_
     refine a_op ?_
     refine s_nil (r_false ?_)
     refine q_next ?_
     refine k_seq ?_
     refine k_seq ?_
     refine k_region rfl ?_
     refine a_op ?_
     refine a_op ?_
     refine s_nil (r_false ?_)
     refine q_next ?_
     refine k_block ?_
     refine k_loopF (fun sl L (k : Nat) => ⟨setAll (setBad sl [0, 3, 4, 5, 6, 7, 10, 11, 12, 13, 14, 15, 16, 17, 18, 19, 20, 21, 22, 23, 24, 25, 26, 27, 28, 29, 30, 31, 32, 33, 34, 35, 36, 37, 38, 39, 40, 41, 42, 43, 44, 45, 46, 47, 48, 49, 50, 53, 54, 55, 56, 57, 58, 59, 60, 61, 62, 63, 64, 65, 66, 67, 68, 69]) [(8, .msl (.n 7) 0 (4 * k) 1), (52, .t (num k))], Go.Ot.look (putL (.n 7) (rowO 5 w8 (outB (chunks (padB xs.flatten) i) k)) L)⟩) (fun k => k ≤ 8) (fun k => 8 - k) (0) (a_le ?_) ?_ ?_
     ·refine le_of [(.r 9 2 0, .r 9 2 0), (.r 9 3 0, .r 9 3 0)] ?_ ?_ ?_ <;> simp [-List.map_set, -List.map_replicate, -List.reduceReplicate, -List.map_map, -List.map_drop, -List.map_take, num, bol, txt, w8, w16, w32, w64, lst, cls, rowO, boxO, List.take_of_length_le, outB]
     ·(first | omega | simp)
     ·intro k hk
      refine a_st ?_
      refine k_seq ?_
      refine k_region rfl ?_
      refine a_op ?_
      refine s_nil (r_false ?_)
      refine q_next ?_
      refine k_seq ?_
      refine a_if (fun hc2 => ?_) (fun hc2 => ?_)
      ·(try simp only [Bool.and_eq_true, Bool.or_eq_true, Bool.or_eq_false_iff, Bool.not_eq_true', Bool.not_eq_false', dec_t, dec_f, Bool.and_eq_false_imp, beq_iff_eq, beq_eq_false_iff_ne, ne_eq] at hc2)
       refine k_skip ?_
       refine q_next ?_
       refine k_seq ?_
       refine k_block ?_
       refine k_seq ?_
       refine k_region rfl ?_
       refine a_op ?_
       refine a_op ?_
       refine s_nil (r_false ?_)
       refine q_next ?_
       refine k_region rfl ?_
       iterate 15 refine a_op ?_
       refine s_nil (r_false ?_)
       refine q_block (q_next ?_)
       refine k_region rfl ?_
       refine a_op ?_
       refine a_op ?_
       refine s_nil (r_false ?_)
       refine q_loopF (k + 1) (a_le ?_) ?_ ?_
       ·refine le_same ?_ ?_ ?_ <;> simp [-List.map_set, -List.map_replicate, -List.reduceReplicate, -List.map_map, -List.map_drop, -List.map_take, num, bol, txt, w8, w16, w32, w64, lst, cls, rowO, boxO, List.take_of_length_le, outB, Nat.mul_add]
       ·(first | omega | (simp_all <;> omega))
       ·(first | omega | (simp only []; omega))
      ·(try simp only [Bool.and_eq_true, Bool.or_eq_true, Bool.or_eq_false_iff, Bool.not_eq_true', Bool.not_eq_false', dec_t, dec_f, Bool.and_eq_false_imp, beq_iff_eq, beq_eq_false_iff_ne, ne_eq] at hc2)
       refine k_exit ?_
       refine q_seq_exit (q_loopF_exit (q_block_exit (q_next ?_)))
       refine k_seq ?_
       refine k_region rfl ?_
       obtain rfl : k = 8 := by omega
       refine a_op ?_
       first | refine a_text ?_ | refine a_texts ?_
       refine a_op ?_
       refine s_nil (r_false ?_)
       refine q_next ?_
       refine k_ret ?_
       refine ⟨.inr rfl, a_ret [] (by rw [results31]) ?_ ?_ ?_⟩ <;> simp [-List.map_set, -List.map_replicate, -List.reduceReplicate, -List.map_map, -List.map_drop, -List.map_take, num, bol, txt, w8, w16, w32, w64, lst, cls, rowO, boxO, List.take_of_length_le, sha, hd]

end Go.Proofs.Tryz
