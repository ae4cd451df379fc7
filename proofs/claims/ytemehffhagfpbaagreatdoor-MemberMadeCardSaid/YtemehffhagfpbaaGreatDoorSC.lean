/- Contracts of this program's functions. -/
import Derived.Test.YtemehffhagfpbaaGreatDoorSA
set_option maxHeartbeats 4000000
set_option maxRecDepth 100000
set_option linter.unusedVariables false
set_option linter.unusedSimpArgs false
namespace Go.Proofs.Tryz
open Go Go.Ot
attribute [local irreducible] wpK wpS seqK blockK loopF regK meetK OpSpec Le sched wordTo rnds addTo
theorem spread_good (Γ : Gl) (s : List UInt8) (hs : s.length = 64) : Go.Ot.Good Γ prog 74 [.t (txt s)] [] (.agg (cls w32 (sched s 64))) [] [] := by
 refine a_body F.mix func74 (by rfl) ntmps74 ?_
 refine k_seq ?_
 refine k_region rfl ?_
 refine a_op ?_
 refine s_nil (r_false ?_)
 refine q_next ?_
 refine k_seq ?_
 refine k_region rfl ?_
 refine a_op ?_
 refine s_nil (r_false ?_)
 refine q_next ?_
 refine k_seq ?_
 refine k_seq ?_
 refine k_region rfl ?_
 refine a_op ?_
 refine s_nil (r_false ?_)
 refine q_next ?_
 refine k_block ?_
 refine k_loopF (fun sl L (i : Nat) => ⟨setAll (setBad sl [4, 5, 10, 11, 12, 13, 14, 15, 16, 17, 18, 19, 20, 21, 22, 23, 24, 25, 26, 27, 28, 29, 30]) [(9, .t (num i))], Go.Ot.look (putL (.r 1 0 0) (boxO 94 (cls w32 (sched s i))) L)⟩) (fun i => i ≤ 16) (fun i => 16 - i) (0) (a_le ?_) ?_ ?_
 ·refine le_same ?_ ?_ ?_ <;> simp [-List.map_set, -List.map_replicate, -List.reduceReplicate, -List.map_map, -List.map_drop, -List.map_take, num, bol, txt, w8, w16, w32, w64, lst, cls, rowO, boxO, List.take_of_length_le, sched]
 ·(first | omega | simp)
 ·intro i hi
  have hl := sched_len s i
  refine a_st ?_
  refine k_seq ?_
  refine k_region rfl ?_
  refine a_op ?_
  refine s_nil (r_false ?_)
  refine q_next ?_
  refine k_seq ?_
  refine a_if (fun hc0 => ?_) (fun hc0 => ?_)
  ·(try simp only [Bool.and_eq_true, Bool.or_eq_true, Bool.or_eq_false_iff, Bool.not_eq_true', Bool.not_eq_false', dec_t, dec_f, Bool.and_eq_false_imp, beq_iff_eq, beq_eq_false_iff_ne, ne_eq] at hc0)
   refine k_skip ?_
   refine q_next ?_
   refine k_seq ?_
   refine k_block ?_
   refine k_seq ?_
   refine k_region rfl ?_
   refine a_op ?_
   refine a_op ?_
   refine s_nil (r_false ?_)
   refine q_next ?_
   refine k_seq ?_
   refine k_region rfl ?_
   refine a_op ?_
   refine s_nil (r_false ?_)
   refine q_next ?_
   refine k_block ?_
   refine k_loopF (fun sl L (k : Nat) => ⟨setAll (setBad sl [5, 10, 11, 13, 14, 15, 16, 17, 18, 19, 20, 21, 22, 23, 24, 25, 26, 27, 28, 29]) [(12, .t (num k))], Go.Ot.look (putL (.r 1 0 0) (boxO 94 (cls w32 ((sched s i).set i (wordTo s i k)))) L)⟩) (fun k => k ≤ 4) (fun k => 4 - k) (0) (a_le ?_) ?_ ?_
   ·refine le_same ?_ ?_ ?_ <;> simp [-List.map_set, -List.map_replicate, -List.reduceReplicate, -List.map_map, -List.map_drop, -List.map_take, num, bol, txt, w8, w16, w32, w64, lst, cls, rowO, boxO, List.take_of_length_le, wordTo, sched_set0]
   ·(first | omega | simp)
   ·intro k hk
    refine a_st ?_
    refine k_seq ?_
    refine k_region rfl ?_
    refine a_op ?_
    refine s_nil (r_false ?_)
    refine q_next ?_
    refine k_seq ?_
    refine a_if (fun hc1 => ?_) (fun hc1 => ?_)
    ·(try simp only [Bool.and_eq_true, Bool.or_eq_true, Bool.or_eq_false_iff, Bool.not_eq_true', Bool.not_eq_false', dec_t, dec_f, Bool.and_eq_false_imp, beq_iff_eq, beq_eq_false_iff_ne, ne_eq] at hc1)
     refine k_skip ?_
     refine q_next ?_
     refine k_seq ?_
     refine k_block ?_
     refine k_seq ?_
     refine k_region rfl ?_
     refine a_op ?_
     refine a_op ?_
     refine s_nil (r_false ?_)
     refine q_next ?_
     refine k_region rfl ?_
     iterate 15 refine a_opd ?_
     refine s_nil (r_true (by kernel_rfl) ?_)
     refine q_block (q_next ?_)
     refine k_region rfl ?_
     refine a_op ?_
     refine a_op ?_
     refine s_nil (r_false ?_)
     have e1 : ((4 : Int) * (i : Int) + (k : Int)).toNat = 4 * i + k := by omega
     refine q_loopF (k + 1) (a_le ?_) ?_ ?_
     ·refine le_same ?_ ?_ ?_ <;> simp [-List.map_set, -List.map_replicate, -List.reduceReplicate, -List.map_map, -List.map_drop, -List.map_take, num, bol, txt, w8, w16, w32, w64, lst, cls, rowO, boxO, List.take_of_length_le, wordTo, sched_set0, e1]
     ·(first | omega | (simp_all <;> omega))
     ·(first | omega | (simp only []; omega))
    ·(try simp only [Bool.and_eq_true, Bool.or_eq_true, Bool.or_eq_false_iff, Bool.not_eq_true', Bool.not_eq_false', dec_t, dec_f, Bool.and_eq_false_imp, beq_iff_eq, beq_eq_false_iff_ne, ne_eq] at hc1)
     refine k_exit ?_
     refine q_seq_exit (q_loopF_exit (q_block_exit (q_block (q_next ?_))))
     refine k_region rfl ?_
     refine a_op ?_
     refine a_op ?_
     refine s_nil (r_false ?_)
     obtain rfl : k = 4 := by omega
     refine q_loopF (i + 1) (a_le ?_) ?_ ?_
     ·refine le_same ?_ ?_ ?_ <;> simp [-List.map_set, -List.map_replicate, -List.reduceReplicate, -List.map_map, -List.map_drop, -List.map_take, num, bol, txt, w8, w16, w32, w64, lst, cls, rowO, boxO, List.take_of_length_le, sched, show i < 16 from by omega]
     ·(first | omega | (simp_all <;> omega))
     ·(first | omega | (simp only []; omega))
  ·(try simp only [Bool.and_eq_true, Bool.or_eq_true, Bool.or_eq_false_iff, Bool.not_eq_true', Bool.not_eq_false', dec_t, dec_f, Bool.and_eq_false_imp, beq_iff_eq, beq_eq_false_iff_ne, ne_eq] at hc0)
   refine k_exit ?_
   refine q_seq_exit (q_loopF_exit (q_block_exit (q_next ?_)))
   refine k_seq ?_
   refine k_seq ?_
   refine k_region rfl ?_
   refine a_op ?_
   refine s_nil (r_false ?_)
   refine q_next ?_
   refine k_block ?_
   obtain rfl : i = 16 := by omega
   refine k_loopF (fun sl L (j : Nat) => ⟨setAll (setBad sl [0, 4, 5, 7, 8, 9, 10, 11, 12, 13, 14, 15, 16, 17, 18, 19, 20, 21, 22, 23, 24, 25, 26, 27, 28, 29, 30, 31, 32, 33, 34, 35, 36, 37, 38, 39, 40, 41, 42, 43, 44, 45, 46, 47, 48, 49, 50, 51, 52, 53, 54, 55, 56, 57, 58, 59, 60, 61, 62, 63, 64, 65, 66, 67]) [(6, .t (num j))], Go.Ot.look (putL (.r 1 0 0) (boxO 94 (cls w32 (sched s j))) L)⟩) (fun j => 16 ≤ j ∧ j ≤ 64) (fun j => 64 - j) (16) (a_le ?_) ?_ ?_
   ·refine le_same ?_ ?_ ?_ <;> simp [-List.map_set, -List.map_replicate, -List.reduceReplicate, -List.map_map, -List.map_drop, -List.map_take, num, bol, txt, w8, w16, w32, w64, lst, cls, rowO, boxO, List.take_of_length_le]
   ·(first | omega | simp)
   ·rintro j ⟨hj, hj2⟩
    have hl := sched_len s j
    refine a_st ?_
    refine k_seq ?_
    refine k_seq ?_
    refine k_region rfl ?_
    refine a_op ?_
    refine a_op ?_
    refine s_nil (r_false ?_)
    refine q_next ?_
    refine a_if (fun hc2 => ?_) (fun hc2 => ?_)
    ·(try simp only [Bool.and_eq_true, Bool.or_eq_true, Bool.or_eq_false_iff, Bool.not_eq_true', Bool.not_eq_false', dec_t, dec_f, Bool.and_eq_false_imp, beq_iff_eq, beq_eq_false_iff_ne, ne_eq] at hc2)
     refine k_skip ?_
     refine q_next ?_
     refine k_seq ?_
     refine k_block ?_
     refine k_seq ?_
     refine k_region rfl ?_
     iterate 10 refine a_opd ?_
     refine s_nil (r_true (by kernel_rfl) ?_)
     refine q_next ?_
     refine k_region rfl ?_
     iterate 12 refine a_opd ?_
     refine a_calld [.r 15 11 0] false (turned_good Γ ((sched s j).getD ((j : Int) - 15).toNat 0) [7, 18] (by decide) (by decide)) ?_
     iterate 6 refine a_opd ?_
     refine a_calld [.r 15 18 0] false (turned_good Γ ((sched s j).getD ((j : Int) - 2).toNat 0) [17, 19] (by decide) (by decide)) ?_
     iterate 6 refine a_opd ?_
     refine s_nil (r_true (by kernel_rfl) ?_)
     refine q_block (q_next ?_)
     refine k_region rfl ?_
     iterate 3 refine a_op ?_
     refine s_nil (r_false ?_)
     have e15 : ((j : Int) - 15).toNat = j - 15 := by omega
     have e2 : ((j : Int) - 2).toNat = j - 2 := by omega
     have e16 : ((j : Int) - 16).toNat = j - 16 := by omega
     have e7 : ((j : Int) - 7).toNat = j - 7 := by omega
     refine q_loopF (j + 1) (a_le ?_) ?_ ?_
     ·refine le_same ?_ ?_ ?_ <;> simp [-List.map_set, -List.map_replicate, -List.reduceReplicate, -List.map_map, -List.map_drop, -List.map_take, num, bol, txt, w8, w16, w32, w64, lst, cls, rowO, boxO, List.take_of_length_le, sched, nextW, sig0, sig1, rots, e15, e2, e16, e7, show ¬ j < 16 from by omega]
     ·(first | omega | (simp_all <;> omega))
     ·(first | omega | (simp only []; omega))
    ·(try simp only [Bool.and_eq_true, Bool.or_eq_true, Bool.or_eq_false_iff, Bool.not_eq_true', Bool.not_eq_false', dec_t, dec_f, Bool.and_eq_false_imp, beq_iff_eq, beq_eq_false_iff_ne, ne_eq] at hc2)
     refine k_exit ?_
     refine q_seq_exit (q_loopF_exit (q_block_exit (q_next ?_)))
     refine k_seq ?_
     refine k_region rfl ?_
     obtain rfl : j = 64 := by omega
     refine a_op ?_
     refine a_op ?_
     refine s_nil (r_false ?_)
     refine q_next ?_
     refine k_ret ?_
     refine ⟨.inr rfl, a_ret [] (by rw [results74]) ?_ ?_ ?_⟩ <;> simp [-List.map_set, -List.map_replicate, -List.reduceReplicate, -List.map_map, -List.map_drop, -List.map_take, num, bol, txt, w8, w16, w32, w64, lst, cls, rowO, boxO, List.take_of_length_le, sched_len]

end Go.Proofs.Tryz
