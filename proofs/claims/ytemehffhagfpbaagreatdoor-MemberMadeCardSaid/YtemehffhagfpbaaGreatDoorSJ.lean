/- Contracts of this program's functions. -/
import Derived.Test.YtemehffhagfpbaaGreatDoorSP
set_option maxHeartbeats 4000000
set_option maxRecDepth 100000
set_option linter.unusedVariables false
set_option linter.unusedSimpArgs false
namespace Go.Proofs.Tryz
open Go Go.Ot
attribute [local irreducible] wpK wpS seqK blockK loopF regK meetK OpSpec Le sched wordTo rnds addTo rotr chunks takeB be64 outB sha padB eight lft rots3 addR
theorem ref_good (Γ : Gl) (s : List UInt8) (hs : s.length ≤ 1000000000) : Go.Ot.Good Γ prog 28 [.t (txt s)] [] (.t (txt (sha s))) [] [] := by
 refine a_body F.mix func28 (by rfl) ntmps28 ?_
 refine k_seq ?_
 refine k_region rfl ?_
 refine a_op ?_
 refine s_nil (r_false ?_)
 refine q_next ?_
 refine k_seq ?_
 refine k_region rfl ?_
 iterate 3 refine a_op ?_
 refine s_nil (r_false ?_)
 refine q_next ?_
 refine k_seq ?_
 refine k_region rfl ?_
 iterate 4 refine a_op ?_
 refine s_nil (r_false ?_)
 refine q_next ?_
 refine k_seq ?_
 refine k_block ?_
 refine k_loopF (fun sl L (k : Nat) => ⟨setAll (setBad sl [18, 19, 20, 21, 22, 23, 24, 25, 26, 27, 28, 29]) [(3, .msl (.r 1 1 0) 0 (s ++ [128] ++ List.replicate k 0).length 1)], Go.Ot.look (putL (.r 1 1 0) (rowO 5 w8 (s ++ [128] ++ List.replicate k 0)) (delL (.r 2 1 0) L))⟩) (fun k => k ≤ (120 - (s.length + 1) % 64) % 64) (fun k => (120 - (s.length + 1) % 64) % 64 - k) (0) (a_le ?_) ?_ ?_
 ·refine le_same ?_ ?_ ?_ <;> simp [-List.map_set, -List.map_replicate, -List.reduceReplicate, -List.map_map, -List.map_drop, -List.map_take, num, bol, txt, w8, w16, w32, w64, lst, cls, rowO, boxO, List.take_of_length_le] <;> (try omega)
 ·(first | omega | simp)
 ·intro k hk
  refine a_st ?_
  refine k_seq ?_
  refine k_seq ?_
  refine k_region rfl ?_
  iterate 4 refine a_op ?_
  refine s_nil (r_false ?_)
  refine q_next ?_
  refine a_if (fun hc0 => ?_) (fun hc0 => ?_)
  ·(try simp only [Bool.and_eq_true, Bool.or_eq_true, Bool.or_eq_false_iff, Bool.not_eq_true', Bool.not_eq_false', dec_t, dec_f, Bool.and_eq_false_imp, beq_iff_eq, beq_eq_false_iff_ne, ne_eq] at hc0)
   refine k_skip ?_
   refine q_next ?_
   refine k_block ?_
   refine k_region rfl ?_
   iterate 4 refine a_op ?_
   refine s_nil (r_false ?_)
   refine q_block (q_loopF (k + 1) (a_le ?_) ?_ ?_)
   ·refine le_same ?_ ?_ ?_ <;> simp [-List.map_set, -List.map_replicate, -List.reduceReplicate, -List.map_map, -List.map_drop, -List.map_take, num, bol, txt, w8, w16, w32, w64, lst, cls, rowO, boxO, List.take_of_length_le, List.replicate_succ'] <;> (try omega)
   ·(first | omega | (simp_all <;> omega))
   ·(first | omega | (simp only []; omega))
  ·(try simp only [Bool.and_eq_true, Bool.or_eq_true, Bool.or_eq_false_iff, Bool.not_eq_true', Bool.not_eq_false', dec_t, dec_f, Bool.and_eq_false_imp, beq_iff_eq, beq_eq_false_iff_ne, ne_eq] at hc0)
   obtain rfl : k = (120 - (s.length + 1) % 64) % 64 := by omega
   refine k_exit ?_
   refine q_seq_exit (q_loopF_exit (q_block_exit (q_next ?_)))
   refine k_seq ?_
   refine k_region rfl ?_
   iterate 4 refine a_op ?_
   refine a_call [] false (eight_good Γ (8 * s.length)) ?_
   refine a_op ?_
   refine a_op ?_
   refine s_nil (r_false ?_)
   refine q_next ?_
   refine k_seq ?_
   refine k_region rfl ?_
   refine a_op ?_
   refine a_op ?_
   refine s_nil (r_false ?_)
   refine q_next ?_
   refine k_seq ?_
   refine k_region rfl ?_
   refine a_call [] false (constants_good Γ) ?_
   refine a_op ?_
   refine s_nil (r_false ?_)
   refine q_next ?_
   refine k_seq ?_
   refine k_region rfl ?_
   refine a_op ?_
   refine a_op ?_
   refine s_nil (r_false ?_)
   refine q_next ?_
   refine k_seq ?_
   refine k_seq ?_
   refine k_region rfl ?_
   refine a_op ?_
   refine s_nil (r_false ?_)
   refine q_next ?_
   refine k_block ?_
   have hP := padB_eight s hs
   have hPl := padB_len s
   have hPb : (padB s).length ≤ 1000000200 := by rw [hP]; simp only [List.length_append, List.length_cons, List.length_nil, List.length_replicate, eight_len]; omega
   refine k_loopF (fun sl L (x : Nat × List UInt32) => ⟨setAll (setBad sl [0, 8, 9, 10, 11, 12, 13, 14, 15, 18, 19, 20, 21, 22, 23, 24, 25, 26, 27, 28, 29, 30, 31, 32, 33, 34, 35, 36, 37, 38, 39, 40, 41, 42, 43, 44, 45, 46, 47, 48, 49, 50, 51, 52, 53, 54, 55, 56, 57, 58, 59, 60, 61, 62, 63, 64, 65, 66, 67, 68, 69, 70, 71, 72, 73, 74, 75, 76, 77, 78, 79, 80, 81, 82, 83, 84, 85, 86, 87, 88, 89, 90, 91, 92, 93, 94, 95, 96, 97, 98, 99, 100, 101, 102, 103, 104, 105, 106, 107, 108, 109, 110, 111, 112, 113, 114, 115, 116, 117, 118, 119, 120, 121, 122, 123, 124, 125, 126, 127, 128, 129, 130, 131, 132, 133, 134, 135, 136, 137, 138, 139, 140, 141, 142, 143, 144, 145, 146, 147, 148, 149, 150, 151, 152, 153, 154, 155, 156, 157, 158, 159, 160, 161, 162, 163, 164, 165, 166, 167, 168, 169, 170, 171, 172, 173, 174, 175, 176, 177, 178, 179, 180, 181, 182, 183, 184, 185, 186, 187, 188, 189, 190, 191, 192, 193, 194, 195, 196, 197, 198, 199, 200, 201, 202, 203, 204, 205, 206, 207, 208, 209, 210, 211, 212, 213, 214, 215, 216]) [(3, .msl (.r 1 1 0) 0 (padB s).length 1), (7, .t (num (64 * (x.1 : Int))))], Go.Ot.look (putL (.r 1 1 0) (rowO 5 w8 (padB s)) (putL (.r 6 0 0) (rowO 81 w32 (chunks (padB s) x.1)) (putL (.r 8 0 0) (rowO 81 w32 x.2) L)))⟩) (fun x => 64 * x.1 ≤ (padB s).length ∧ x.2.length = 64) (fun x => (padB s).length - x.1) ((0, List.replicate 64 0)) (a_le ?_) ?_ ?_
   ·refine le_same ?_ ?_ ?_ <;> simp [-List.map_set, -List.map_replicate, -List.reduceReplicate, -List.map_map, -List.map_drop, -List.map_take, num, bol, txt, w8, w16, w32, w64, lst, cls, rowO, boxO, List.take_of_length_le, hP, chunks, eight_len, H0, List.replicate_succ (n := 63), List.replicate_succ, List.replicate_zero] <;> (try omega)
   ·exact ⟨by simp, by simp⟩
   ·rintro ⟨i, w⟩ ⟨hi, hw⟩
    dsimp only at hi hw
    have hc8 := chunks_len (padB s) i
    refine a_st ?_
    refine k_seq ?_
    refine k_seq ?_
    refine k_region rfl ?_
    iterate 4 refine a_op ?_
    refine s_nil (r_false ?_)
    refine q_next ?_
    refine a_if (fun hc1 => ?_) (fun hc1 => ?_)
    ·(try simp only [Bool.and_eq_true, Bool.or_eq_true, Bool.or_eq_false_iff, Bool.not_eq_true', Bool.not_eq_false', dec_t, dec_f, Bool.and_eq_false_imp, beq_iff_eq, beq_eq_false_iff_ne, ne_eq] at hc1)
     have h64 : 64 * i + 64 ≤ (padB s).length := by omega
     refine k_skip ?_
     refine q_next ?_
     refine k_seq ?_
     refine k_block ?_
     refine k_seq ?_
     refine k_region rfl ?_
     iterate 4 refine a_op ?_
     refine s_nil (r_false ?_)
     refine q_next ?_
     refine k_seq ?_
     refine k_seq ?_
     refine k_region rfl ?_
     refine a_op ?_
     refine s_nil (r_false ?_)
     refine q_next ?_
     refine k_block ?_
     refine k_loopF (fun sl L (y : Nat × List UInt32) => ⟨setAll (setBad sl [0, 10, 11, 12, 13, 14, 18, 19, 20, 21, 22, 23, 24, 25, 26, 27, 28, 29, 30, 31, 32, 33, 34, 35, 36, 37, 38, 39, 40, 41, 42, 45, 46, 47, 48, 49, 50, 51, 52, 53, 54, 55, 56, 57, 58, 59, 60, 61, 62, 63, 64, 65, 66, 67, 68, 69, 70, 71, 72, 73, 74, 75, 76, 77, 78, 79, 80, 81, 82, 83, 84, 85, 86, 87, 88, 89, 90, 91, 92, 93, 94, 95, 96, 97, 98, 99, 100, 101, 102, 103, 104, 105, 106, 107, 108, 109, 110, 111, 112, 113, 114, 115, 116, 117, 118, 119, 120, 121, 122, 123, 124, 125, 126, 127, 128, 129, 130, 131, 132, 133, 134, 135, 136, 137, 138, 139, 140, 141, 142, 143, 144, 145, 146, 147, 148, 149, 150, 151, 152, 153, 154, 155, 156, 157, 158, 159, 160, 161, 162, 163, 164, 165, 166, 167, 168, 169, 170, 171, 172, 173, 174, 175, 176, 177, 178, 179, 180, 181, 182, 183, 184, 185, 186, 187, 188, 189, 190, 191, 192, 193, 194, 195, 196, 197, 198, 199, 200, 201, 202]) [(8, .msl (.n 1) 0 8 1), (9, .t (num y.1))], Go.Ot.look (putL (.n 1) (rowO 81 w32 (rnds (chunks (padB s) i) (sched (((padB s).drop (64 * i)).take 64) 64) y.1)) (putL (.r 8 0 0) (rowO 81 w32 y.2) (delL (.r 12 0 0) L)))⟩) (fun y => y.1 ≤ 64 ∧ y.2.length = 64 ∧ ∀ t, t < y.1 → y.2.getD t 0 = (sched (((padB s).drop (64 * i)).take 64) 64).getD t 0) (fun y => 64 - y.1) ((0, w)) (a_le ?_) ?_ ?_
     ·refine le_of [(.r 1 1 0, .r 1 1 0), (.r 6 0 0, .r 6 0 0), (.r 7 0 0, .r 7 0 0), (.r 8 0 0, .r 8 0 0), (.n 1, .r 12 0 0)] ?_ ?_ ?_ <;> simp [-List.map_set, -List.map_replicate, -List.reduceReplicate, -List.map_map, -List.map_drop, -List.map_take, num, bol, txt, w8, w16, w32, w64, lst, cls, rowO, boxO, List.take_of_length_le, rnds]
     ·exact ⟨by simp, hw, fun t ht => by omega⟩
     ·rintro ⟨j, u⟩ ⟨hj, hu, hut⟩
      dsimp only at hj hu hut
      have hr := rnds_len (chunks (padB s) i) (sched (((padB s).drop (64 * i)).take 64) 64) hc8 j
      have hk64 := K64_len
      have hb64 := sched_len (((padB s).drop (64 * i)).take 64) 64
      refine a_st ?_
      refine k_seq ?_
      refine k_seq ?_
      refine k_region rfl ?_
      refine a_op ?_
      refine a_op ?_
      refine s_nil (r_false ?_)
      refine q_next ?_
      refine a_if (fun hc2 => ?_) (fun hc2 => ?_)
      ·(try simp only [Bool.and_eq_true, Bool.or_eq_true, Bool.or_eq_false_iff, Bool.not_eq_true', Bool.not_eq_false', dec_t, dec_f, Bool.and_eq_false_imp, beq_iff_eq, beq_eq_false_iff_ne, ne_eq] at hc2)
       refine k_skip ?_
       refine q_next ?_
       refine k_seq ?_
       refine k_block ?_
       refine k_seq ?_
       refine k_seq ?_
       refine k_region rfl ?_
       refine a_op ?_
       refine a_op ?_
       refine s_nil (r_false ?_)
       refine q_next ?_
       refine a_if (fun hc3 => ?_) (fun hc3 => ?_)
       ·(try simp only [Bool.and_eq_true, Bool.or_eq_true, Bool.or_eq_false_iff, Bool.not_eq_true', Bool.not_eq_false', dec_t, dec_f, Bool.and_eq_false_imp, beq_iff_eq, beq_eq_false_iff_ne, ne_eq] at hc3)
        refine k_seq ?_
        refine k_region rfl ?_
        iterate 7 refine a_op ?_
        refine s_nil (r_false ?_)
        refine q_next ?_
        refine k_region rfl ?_
        iterate 26 refine a_opd ?_
        have hx : sl32 ((padB s).getD ((64 : Int) * (i : Int) + 4 * (j : Int)).toNat 0).toUInt32 24 ||| sl32 ((padB s).getD (((64 : Int) * (i : Int) + 4 * (j : Int)).toNat + 1) 0).toUInt32 16 ||| sl32 ((padB s).getD (((64 : Int) * (i : Int) + 4 * (j : Int)).toNat + 2) 0).toUInt32 8 ||| ((padB s).getD (((64 : Int) * (i : Int) + 4 * (j : Int)).toNat + 3) 0).toUInt32 = (sched (((padB s).drop (64 * i)).take 64) 64).getD j 0 := by rw [show ((64 : Int) * (i : Int) + 4 * (j : Int)).toNat = 64 * i + 4 * j from by omega, word_eq (by omega), sched_at _ (by omega), if_pos (by omega)]
        rw [hx]
        refine s_nil (r_true (by kernel_rfl) ?_)
        refine q_next ?_
        refine k_seq ?_
        refine k_region rfl ?_
        iterate 6 refine a_opd ?_
        refine a_calld [] false (turns_good Γ ((rnds (chunks (padB s) i) (sched (((padB s).drop (64 * i)).take 64) 64) j).getD 4 0) 6 11 25 (by omega) (by omega) (by omega)) ?_
        iterate 29 refine a_opd ?_
        refine s_nil (r_true (by kernel_rfl) ?_)
        refine q_next ?_
        refine k_seq ?_
        refine k_region rfl ?_
        iterate 3 refine a_opd ?_
        refine a_calld [] false (turns_good Γ ((rnds (chunks (padB s) i) (sched (((padB s).drop (64 * i)).take 64) 64) j).getD 0 0) 2 13 22 (by omega) (by omega) (by omega)) ?_
        iterate 25 refine a_opd ?_
        refine s_nil (r_true (by kernel_rfl) ?_)
        refine q_next ?_
        refine k_seq ?_
        refine k_region rfl ?_
        iterate 8 refine a_op ?_
        refine s_nil (r_false ?_)
        refine q_next ?_
        refine k_region rfl ?_
        iterate 7 refine a_op ?_
        refine s_nil (r_false ?_)
        refine q_block (q_next ?_)
        refine k_region rfl ?_
        iterate 3 refine a_op ?_
        refine s_nil (r_false ?_)
        refine q_loopF ((j + 1, u.set j ((sched (((padB s).drop (64 * i)).take 64) 64).getD j 0))) (a_le ?_) ?_ ?_
        ·refine le_of [(.r 1 1 0, .r 1 1 0), (.r 6 0 0, .r 6 0 0), (.r 7 0 0, .r 7 0 0), (.r 8 0 0, .r 8 0 0), (.n 1, .r 23 3 0)] ?_ ?_ ?_ <;> simp [-List.map_set, -List.map_replicate, -List.reduceReplicate, -List.map_map, -List.map_drop, -List.map_take, num, bol, txt, w8, w16, w32, w64, lst, cls, rowO, boxO, List.take_of_length_le, rnds, rnd, tt, uu, take7 hr]
        ·refine ⟨by simp only []; omega, by simpa using hu, fun t ht => ?_⟩
         by_cases e : t = j
         ·subst e; exact getD_set_self (by rw [hu]; omega)
         ·simp only [List.getD_eq_getElem?_getD] at hut ⊢; rw [List.getElem?_set_ne (by omega)]; exact hut t (by simp only [] at ht; omega)
        ·(first | omega | (simp only []; omega))
       ·(try simp only [Bool.and_eq_true, Bool.or_eq_true, Bool.or_eq_false_iff, Bool.not_eq_true', Bool.not_eq_false', dec_t, dec_f, Bool.and_eq_false_imp, beq_iff_eq, beq_eq_false_iff_ne, ne_eq] at hc3)
        refine k_seq ?_
        refine k_region rfl ?_
        iterate 12 refine a_opd ?_
        refine s_nil (r_true (by kernel_rfl) ?_)
        refine q_next ?_
        refine k_region rfl ?_
        iterate 14 refine a_opd ?_
        refine a_calld [] false (left_good Γ (u.getD ((j : Int) - 15).toNat 0) 25 (by omega)) ?_
        refine a_opd ?_
        refine a_calld [] false (left_good Γ (u.getD ((j : Int) - 15).toNat 0) 14 (by omega)) ?_
        iterate 6 refine a_opd ?_
        refine a_calld [] false (left_good Γ (u.getD ((j : Int) - 2).toNat 0) 15 (by omega)) ?_
        refine a_opd ?_
        refine a_calld [] false (left_good Γ (u.getD ((j : Int) - 2).toNat 0) 13 (by omega)) ?_
        iterate 7 refine a_opd ?_
        have hx := next_eq (s := ((padB s).drop (64 * i)).take 64) (w := u) (j := j) (by omega) (by omega) hut
        rw [show j - 16 = ((j : Int) - 16).toNat from by omega, show j - 7 = ((j : Int) - 7).toNat from by omega, show j - 15 = ((j : Int) - 15).toNat from by omega, show j - 2 = ((j : Int) - 2).toNat from by omega] at hx
        rw [hx]
        refine s_nil (r_true (by kernel_rfl) ?_)
        refine q_next ?_
        refine k_seq ?_
        refine k_region rfl ?_
        iterate 6 refine a_opd ?_
        refine a_calld [] false (turns_good Γ ((rnds (chunks (padB s) i) (sched (((padB s).drop (64 * i)).take 64) 64) j).getD 4 0) 6 11 25 (by omega) (by omega) (by omega)) ?_
        iterate 29 refine a_opd ?_
        refine s_nil (r_true (by kernel_rfl) ?_)
        refine q_next ?_
        refine k_seq ?_
        refine k_region rfl ?_
        iterate 3 refine a_opd ?_
        refine a_calld [] false (turns_good Γ ((rnds (chunks (padB s) i) (sched (((padB s).drop (64 * i)).take 64) 64) j).getD 0 0) 2 13 22 (by omega) (by omega) (by omega)) ?_
        iterate 25 refine a_opd ?_
        refine s_nil (r_true (by kernel_rfl) ?_)
        refine q_next ?_
        refine k_seq ?_
        refine k_region rfl ?_
        iterate 8 refine a_op ?_
        refine s_nil (r_false ?_)
        refine q_next ?_
        refine k_region rfl ?_
        iterate 7 refine a_op ?_
        refine s_nil (r_false ?_)
        refine q_block (q_next ?_)
        refine k_region rfl ?_
        iterate 3 refine a_op ?_
        refine s_nil (r_false ?_)
        refine q_loopF ((j + 1, u.set j ((sched (((padB s).drop (64 * i)).take 64) 64).getD j 0))) (a_le ?_) ?_ ?_
        ·refine le_of [(.r 1 1 0, .r 1 1 0), (.r 6 0 0, .r 6 0 0), (.r 7 0 0, .r 7 0 0), (.r 8 0 0, .r 8 0 0), (.n 1, .r 23 3 0)] ?_ ?_ ?_ <;> simp [-List.map_set, -List.map_replicate, -List.reduceReplicate, -List.map_map, -List.map_drop, -List.map_take, num, bol, txt, w8, w16, w32, w64, lst, cls, rowO, boxO, List.take_of_length_le, rnds, rnd, tt, uu, take7 hr]
        ·refine ⟨by simp only []; omega, by simpa using hu, fun t ht => ?_⟩
         by_cases e : t = j
         ·subst e; exact getD_set_self (by rw [hu]; omega)
         ·simp only [List.getD_eq_getElem?_getD] at hut ⊢; rw [List.getElem?_set_ne (by omega)]; exact hut t (by simp only [] at ht; omega)
        ·(first | omega | (simp only []; omega))
      ·(try simp only [Bool.and_eq_true, Bool.or_eq_true, Bool.or_eq_false_iff, Bool.not_eq_true', Bool.not_eq_false', dec_t, dec_f, Bool.and_eq_false_imp, beq_iff_eq, beq_eq_false_iff_ne, ne_eq] at hc2)
       refine k_exit ?_
       refine q_seq_exit (q_loopF_exit (q_block_exit (q_next ?_)))
       refine k_seq ?_
       refine k_region rfl ?_
       refine a_op ?_
       refine s_nil (r_false ?_)
       refine q_next ?_
       refine k_block ?_
       obtain rfl : j = 64 := by omega
       have hv8 := hr
       refine k_loopF (fun sl L (q : Nat) => ⟨setAll (setBad sl [0, 18, 19, 20, 21, 22, 23, 24, 25, 26, 27, 28, 29, 30, 31, 32, 33, 34, 35, 36, 37, 38, 39, 40, 41, 42, 45, 46, 47, 48, 49, 50, 51, 52, 53, 54, 55, 56, 57, 58, 59, 60, 61, 62, 63, 64, 65, 66, 67, 68, 69, 70, 71, 72, 73, 74, 75, 76, 77, 78, 79, 80, 81, 82, 83, 84, 85, 86, 87, 88, 89, 90, 91, 92, 93, 94, 95, 96, 97, 98, 99, 100, 101, 102, 103, 104, 105, 106, 107, 108, 109, 110, 111, 112, 113, 114, 115, 116, 117, 118, 119, 120, 121, 122, 123, 124, 125, 126, 127, 128, 129, 130, 131, 132, 133, 134, 135, 136, 137, 138, 139, 140, 141, 142, 143, 144, 145, 146, 147, 148, 149, 150, 151, 152, 153, 154, 155, 156, 157, 158, 159, 160, 161, 162, 163, 164, 165, 166, 167, 168, 169, 170, 171, 172, 173, 174, 175, 176, 177, 178, 179, 180, 181, 182, 183, 184, 185, 186, 187, 188, 189, 190, 191, 192, 193, 194, 195, 196, 197, 198, 199, 200, 201, 202, 203, 204, 205, 206, 207, 208, 209, 210, 211, 212, 213, 214, 215, 216]) [(15, .t (num q))], Go.Ot.look (putL (.r 6 0 0) (rowO 81 w32 (addR (chunks (padB s) i) (rnds (chunks (padB s) i) (sched (((padB s).drop (64 * i)).take 64) 64) 64) q)) L)⟩) (fun q => q ≤ 8) (fun q => 8 - q) (0) (a_le ?_) ?_ ?_
       ·refine le_same ?_ ?_ ?_ <;> simp [-List.map_set, -List.map_replicate, -List.reduceReplicate, -List.map_map, -List.map_drop, -List.map_take, num, bol, txt, w8, w16, w32, w64, lst, cls, rowO, boxO, List.take_of_length_le, addR]
       ·(first | omega | simp)
       ·intro q hq
        have ha := (addR_len (chunks (padB s) i) (rnds (chunks (padB s) i) (sched (((padB s).drop (64 * i)).take 64) 64) 64) q).trans hc8
        refine a_st ?_
        refine k_seq ?_
        refine k_seq ?_
        refine k_region rfl ?_
        refine a_op ?_
        refine a_op ?_
        refine s_nil (r_false ?_)
        refine q_next ?_
        refine a_if (fun hc4 => ?_) (fun hc4 => ?_)
        ·(try simp only [Bool.and_eq_true, Bool.or_eq_true, Bool.or_eq_false_iff, Bool.not_eq_true', Bool.not_eq_false', dec_t, dec_f, Bool.and_eq_false_imp, beq_iff_eq, beq_eq_false_iff_ne, ne_eq] at hc4)
         refine k_skip ?_
         refine q_next ?_
         refine k_seq ?_
         refine k_block ?_
         refine k_region rfl ?_
         iterate 11 refine a_opd ?_
         refine s_nil (r_true (by kernel_rfl) ?_)
         refine q_block (q_next ?_)
         refine k_region rfl ?_
         iterate 3 refine a_op ?_
         refine s_nil (r_false ?_)
         refine q_loopF (q + 1) (a_le ?_) ?_ ?_
         ·refine le_same ?_ ?_ ?_ <;> simp [-List.map_set, -List.map_replicate, -List.reduceReplicate, -List.map_map, -List.map_drop, -List.map_take, num, bol, txt, w8, w16, w32, w64, lst, cls, rowO, boxO, List.take_of_length_le, addR]
         ·(first | omega | (simp_all <;> omega))
         ·(first | omega | (simp only []; omega))
        ·(try simp only [Bool.and_eq_true, Bool.or_eq_true, Bool.or_eq_false_iff, Bool.not_eq_true', Bool.not_eq_false', dec_t, dec_f, Bool.and_eq_false_imp, beq_iff_eq, beq_eq_false_iff_ne, ne_eq] at hc4)
         obtain rfl : q = 8 := by omega
         refine k_exit ?_
         refine q_seq_exit (q_loopF_exit (q_block_exit (q_block (q_next ?_))))
         refine k_region rfl ?_
         iterate 3 refine a_op ?_
         refine s_nil (r_false ?_)
         refine q_loopF ((i + 1, u)) (a_le ?_) ?_ ?_
         ·refine le_same ?_ ?_ ?_ <;> simp [-List.map_set, -List.map_replicate, -List.reduceReplicate, -List.map_map, -List.map_drop, -List.map_take, num, bol, txt, w8, w16, w32, w64, lst, cls, rowO, boxO, List.take_of_length_le, chunks, takeB, addR_eq hc8 hv8, Int.mul_add] <;> (try omega)
         ·exact ⟨by simp only []; omega, hu⟩
         ·(first | omega | (simp only []; omega))
    ·(try simp only [Bool.and_eq_true, Bool.or_eq_true, Bool.or_eq_false_iff, Bool.not_eq_true', Bool.not_eq_false', dec_t, dec_f, Bool.and_eq_false_imp, beq_iff_eq, beq_eq_false_iff_ne, ne_eq] at hc1)
     have hd : (padB s).length / 64 = i := by omega
     refine k_exit ?_
     refine q_seq_exit (q_loopF_exit (q_block_exit (q_next ?_)))
     refine k_seq ?_
     refine k_region rfl ?_
     refine a_op ?_
     refine s_nil (r_false ?_)
     refine q_next ?_
     refine k_seq ?_
     refine k_seq ?_
     refine k_region rfl ?_
     refine a_op ?_
     refine s_nil (r_false ?_)
     refine q_next ?_
     refine k_block ?_
     refine k_loopF (fun sl L (k : Nat) => ⟨setAll (setBad sl [0, 3, 5, 6, 7, 8, 9, 10, 11, 12, 13, 14, 15, 18, 19, 20, 21, 22, 23, 24, 25, 26, 27, 28, 29, 30, 31, 32, 33, 34, 35, 36, 37, 38, 39, 40, 41, 42, 43, 44, 45, 46, 47, 48, 49, 50, 51, 52, 53, 54, 55, 56, 57, 58, 59, 60, 61, 62, 63, 64, 65, 66, 67, 68, 69, 70, 71, 72, 73, 74, 75, 76, 77, 78, 79, 80, 81, 82, 83, 84, 85, 86, 87, 88, 89, 90, 91, 92, 93, 94, 95, 96, 97, 98, 99, 100, 101, 102, 103, 104, 105, 106, 107, 108, 109, 110, 111, 112, 113, 114, 115, 116, 117, 118, 119, 120, 121, 122, 123, 124, 125, 126, 127, 128, 129, 130, 131, 132, 133, 134, 135, 136, 137, 138, 139, 140, 141, 142, 143, 144, 145, 146, 147, 148, 149, 150, 151, 152, 153, 154, 155, 156, 157, 158, 159, 160, 161, 162, 163, 164, 165, 166, 167, 168, 169, 170, 171, 172, 173, 174, 175, 176, 177, 178, 179, 180, 181, 182, 183, 184, 185, 186, 187, 188, 189, 190, 191, 192, 193, 194, 195, 196, 197, 198, 199, 200, 201, 202, 203, 204, 205, 206, 207, 208, 209, 210, 211, 212, 213, 214, 215, 216, 217, 218, 219, 220, 221, 222, 223, 224, 225, 226, 227, 228, 229, 230, 231, 232, 233, 234, 235, 236, 237, 238, 239, 240, 241, 242, 243, 244, 245, 246]) [(16, .msl (.n 7) 0 (4 * k) 1), (17, .t (num k))], Go.Ot.look (putL (.n 7) (rowO 5 w8 (outB (chunks (padB s) i) k)) L)⟩) (fun k => k ≤ 8) (fun k => 8 - k) (0) (a_le ?_) ?_ ?_
     ·refine le_of [(.r 1 1 0, .r 1 1 0), (.r 6 0 0, .r 6 0 0), (.r 7 0 0, .r 7 0 0), (.r 8 0 0, .r 8 0 0)] ?_ ?_ ?_ <;> simp [-List.map_set, -List.map_replicate, -List.reduceReplicate, -List.map_map, -List.map_drop, -List.map_take, num, bol, txt, w8, w16, w32, w64, lst, cls, rowO, boxO, List.take_of_length_le, outB]
     ·(first | omega | simp)
     ·intro k hk
      refine a_st ?_
      refine k_seq ?_
      refine k_seq ?_
      refine k_region rfl ?_
      refine a_op ?_
      refine a_op ?_
      refine s_nil (r_false ?_)
      refine q_next ?_
      refine a_if (fun hc5 => ?_) (fun hc5 => ?_)
      ·(try simp only [Bool.and_eq_true, Bool.or_eq_true, Bool.or_eq_false_iff, Bool.not_eq_true', Bool.not_eq_false', dec_t, dec_f, Bool.and_eq_false_imp, beq_iff_eq, beq_eq_false_iff_ne, ne_eq] at hc5)
       refine k_skip ?_
       refine q_next ?_
       refine k_seq ?_
       refine k_block ?_
       refine k_region rfl ?_
       iterate 27 refine a_opd ?_
       refine s_nil (r_true (by kernel_rfl) ?_)
       refine q_block (q_next ?_)
       refine k_region rfl ?_
       iterate 3 refine a_op ?_
       refine s_nil (r_false ?_)
       refine q_loopF (k + 1) (a_le ?_) ?_ ?_
       ·refine le_same ?_ ?_ ?_ <;> simp [-List.map_set, -List.map_replicate, -List.reduceReplicate, -List.map_map, -List.map_drop, -List.map_take, num, bol, txt, w8, w16, w32, w64, lst, cls, rowO, boxO, List.take_of_length_le, outB, Nat.mul_add]
       ·(first | omega | (simp_all <;> omega))
       ·(first | omega | (simp only []; omega))
      ·(try simp only [Bool.and_eq_true, Bool.or_eq_true, Bool.or_eq_false_iff, Bool.not_eq_true', Bool.not_eq_false', dec_t, dec_f, Bool.and_eq_false_imp, beq_iff_eq, beq_eq_false_iff_ne, ne_eq] at hc5)
       refine k_exit ?_
       refine q_seq_exit (q_loopF_exit (q_block_exit (q_next ?_)))
       refine k_seq ?_
       refine k_region rfl ?_
       obtain rfl : k = 8 := by omega
       refine a_op ?_
       first | refine a_text ?_ | refine a_texts ?_
       refine a_op ?_
       refine s_nil (r_false ?_)
       refine q_next ?_
       refine k_ret ?_
       refine ⟨.inr rfl, a_ret [] (by rw [results28]) ?_ ?_ ?_⟩ <;> simp [-List.map_set, -List.map_replicate, -List.reduceReplicate, -List.map_map, -List.map_drop, -List.map_take, num, bol, txt, w8, w16, w32, w64, lst, cls, rowO, boxO, List.take_of_length_le, sha, hd]

end Go.Proofs.Tryz
