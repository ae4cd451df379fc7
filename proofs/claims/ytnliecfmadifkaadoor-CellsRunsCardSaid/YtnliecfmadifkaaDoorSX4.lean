/- Contracts of this program's functions. -/
import Derived.Test.YtnliecfmadifkaaDoorSX3
import Derived.Test.YtnliecfmadifkaaDoorOtE
set_option maxHeartbeats 100000000
set_option maxRecDepth 100000
set_option linter.unusedVariables false
set_option linter.unusedSimpArgs false
namespace Go.Proofs.Tryd
open Go Go.Ot
attribute [local irreducible] wpK wpS seqK blockK loopF regK meetK OpSpec Le nowF fallF
theorem runs_good (Γ : Gl) (hE : EG Γ) (c0 : Int) (k0 : List Bool) (l0 : List Ac) (hc0 : c0 ≤ 9223372036854775807) (hP : ∀ a ∈ l0, acP a) (hk0 : k0.length ≤ maxLen) (hl0 : l0.length ≤ 9223372036854775807) : Go.Ot.Good Γ prog 5 [.agg [.t (num c0), .t (lst bol k0)], .t (.sl l0.length (l0.flatMap acT))] [] (.t (bol true)) [] [] := by
  refine a_body F.mix func5 (by rfl) ntmps5 ?_
  refine k_seq ?_
  refine k_region rfl ?_
  refine a_op ?_
  refine a_op ?_
  refine s_nil (r_false ?_)
  refine q_next ?_
  refine k_seq ?_
  refine k_seq ?_
  refine k_region rfl ?_
  iterate 3 refine a_op ?_
  refine s_nil (r_false ?_)
  refine q_next ?_
  refine a_if (fun hc0 => ?_) (fun hc0 => ?_)
  · (try simp only [Bool.and_eq_true, Bool.or_eq_true, Bool.or_eq_false_iff, Bool.not_eq_true', Bool.not_eq_false', dec_t, dec_f, Bool.and_eq_false_imp, beq_iff_eq, beq_eq_false_iff_ne, ne_eq] at hc0)
    refine k_seq ?_
    refine k_region rfl ?_
    refine a_call [] false (awake_good Γ hE) ?_
    refine a_op ?_
    refine s_nil (r_false ?_)
    refine q_next ?_
    refine k_ret ?_
    refine q_seq_ret ?_
    refine ⟨.inr rfl, a_ret [] (by rw [results5]) ?_ ?_ ?_⟩ <;> simp [-List.map_set, -List.map_replicate, -List.reduceReplicate, -List.map_map, -List.map_drop, -List.map_take, num, bol, txt, w8, w16, w32, w64, lst, cls, rowO, boxO, List.take_of_length_le, acT]
  · (try simp only [Bool.and_eq_true, Bool.or_eq_true, Bool.or_eq_false_iff, Bool.not_eq_true', Bool.not_eq_false', dec_t, dec_f, Bool.and_eq_false_imp, beq_iff_eq, beq_eq_false_iff_ne, ne_eq] at hc0)
    refine k_skip ?_
    refine q_next ?_
    refine k_seq ?_
    refine k_region rfl ?_
    refine a_opd ?_
    refine a_calld [] false (New_good Γ c0 (lst bol k0)) ?_
    refine a_opd ?_
    refine a_calld [] false (rNew_good Γ c0 (lst bol k0)) ?_
    refine a_opd ?_
    refine a_opd ?_
    refine s_nil (r_true (by kernel_rfl) ?_)
    refine q_next ?_
    refine k_seq ?_
    refine k_seq ?_
    refine k_region rfl ?_
    refine a_op ?_
    refine a_by (spec_ptrNil false rfl rfl (by kernel_rfl)) ?_
    refine s_nil (r_false ?_)
    refine q_next ?_
    refine a_false ?_
    refine k_skip ?_
    refine q_next ?_
    refine k_seq ?_
    refine k_seq ?_
    refine k_region rfl ?_
    refine a_op ?_
    refine s_nil (r_false ?_)
    refine q_next ?_
    refine k_block ?_
    refine k_loopF (fun sl L (qq : Nat × RQ) => ⟨setAll (setBad sl [0, 2, 4, 8, 9, 10, 11, 12, 13, 14, 15, 16, 17, 18, 19, 20, 21, 22, 23, 24, 25, 26, 27, 28, 29, 30, 31, 32, 33, 34, 35, 36, 37, 38, 39, 40, 41, 42, 43, 44, 45, 46, 47, 48, 49, 50, 51, 52, 53, 54, 55, 56, 57, 58, 59, 60, 61, 62, 63, 64, 65, 66, 67, 68, 69, 70, 71, 72, 73, 74, 75, 76, 77, 78, 79, 80, 81, 82, 83, 84, 85, 86, 87, 88, 89, 90, 91, 92, 93, 94, 95, 96, 97, 98, 99, 100, 101, 102, 103, 104, 105, 106, 107, 108, 109, 110, 111, 112, 113, 114, 115, 116, 117, 118, 119, 120, 121, 122, 123, 124, 125, 126, 127, 128, 129, 130, 131, 132, 133, 134, 135, 136, 137, 138, 139, 140, 141, 142, 143, 144, 145, 146, 147, 148, 149, 150, 151, 152, 153, 154, 155, 156, 157, 158, 159, 160, 161, 162, 163, 164]) [(7, .t (num qq.1))], Go.Ot.look (putL (.r 3 1 0) (boxO 57 [.t (txt (qq.2.2.2.1 0)), .t (txt (qq.2.2.2.1 1)), .t (txt (qq.2.2.2.1 2)), .t (txt (qq.2.2.2.1 3)), loD qq.2.1 (.r 16 11 0) qq.2.2.2.2.1.length, .t (num (qq.2.2.2.2.2.1)), .t (.v (.slice none 0 0)), .t (num (qq.2.2.2.2.2.2.1)), .t (bol (qq.2.2.1))]) (putL (.r 3 3 0) (boxO 52 [.t (txt (qq.2.2.2.1 0)), .t (txt (qq.2.2.2.1 1)), .t (txt (qq.2.2.2.1 2)), .t (txt (qq.2.2.2.1 3)), loD qq.2.1 (.r 16 24 0) qq.2.2.2.2.1.length, .t (num (qq.2.2.2.2.2.2.2)), .t (bol (qq.2.2.1))]) (rowL qq.2.1 (.r 16 11 0) qq.2.2.2.2.1 (rowM qq.2.1 (.r 16 24 0) qq.2.2.2.2.1 []))))⟩) (fun qq => qq.1 ≤ l0.length ∧ RI qq.1 qq.2) (fun qq => l0.length - qq.1) ((0, true, false, (fun _ => []), [], c0, 0, max 0 c0)) (a_le ?_) ?_ ?_
    · refine le_same ?_ ?_ ?_ <;> simp [-List.map_set, -List.map_replicate, -List.reduceReplicate, -List.map_map, -List.map_drop, -List.map_take, num, bol, txt, w8, w16, w32, w64, lst, cls, rowO, boxO, List.take_of_length_le, acT]
    · refine ⟨Nat.zero_le _, ?_⟩
      refine ⟨?_, ?_, ?_, ?_, ?_, ?_, ?_⟩ <;> simp only [] <;> first | omega | exact Nat.zero_le _ | exact In4_nil | (intro _; rfl) | (intro _; trivial)
    · rintro ⟨j, z, dn, s, l, cr, ct, lf⟩ ⟨hj, hq⟩
      obtain ⟨hl1, h4, hz, hct0, hct, hcr, hlf⟩ := hq
      simp only at hj hl1 h4 hz hct0 hct hcr hlf
      refine a_st ?_
      refine k_seq ?_
      refine k_seq ?_
      refine k_region rfl ?_
      iterate 4 refine a_op ?_
      refine s_nil (r_false ?_)
      refine q_next ?_
      refine a_if (fun hc2 => ?_) (fun hc2 => ?_)
      · (try simp only [Bool.and_eq_true, Bool.or_eq_true, Bool.or_eq_false_iff, Bool.not_eq_true', Bool.not_eq_false', dec_t, dec_f, Bool.and_eq_false_imp, beq_iff_eq, beq_eq_false_iff_ne, ne_eq] at hc2)
        refine k_skip ?_
        refine q_next ?_
        refine k_seq ?_
        refine k_block ?_
        refine k_seq ?_
        refine k_seq ?_
        refine k_region rfl ?_
        rcases (show 200 < (l0.getD j default).x.length ∨ ((l0.getD j default).x.length ≤ 200 ∧ 60 < (l0.getD j default).ks.length) ∨ ((l0.getD j default).x.length ≤ 200 ∧ (l0.getD j default).ks.length ≤ 60) by omega) with g1 | ⟨g1, g2⟩ | ⟨g1, g2⟩
        · skip
          iterate 8 refine a_op ?_
          refine a_no ?_
          refine a_no ?_
          refine a_no ?_
          refine a_no ?_
          refine a_no ?_
          refine a_no ?_
          refine a_no ?_
          refine a_no ?_
          refine a_op ?_
          refine s_nil (r_false ?_)
          refine q_next ?_
          refine a_true ?_
          refine k_seq ?_
          refine k_region rfl ?_
          refine a_call [] false (awake_good Γ hE) ?_
          refine a_op ?_
          refine s_nil (r_false ?_)
          refine q_next ?_
          refine k_ret ?_
          refine q_seq_ret (q_block_ret (q_seq_ret (q_loopF_ret (q_block_ret (q_seq_ret ?_)))))
          refine ⟨.inr rfl, a_ret [] (by rw [results5]) ?_ ?_ ?_⟩ <;> simp [-List.map_set, -List.map_replicate, -List.reduceReplicate, -List.map_map, -List.map_drop, -List.map_take, num, bol, txt, w8, w16, w32, w64, lst, cls, rowO, boxO, List.take_of_length_le, acT]
        · skip
          iterate 8 refine a_op ?_
          refine a_go ?_
          refine a_go ?_
          refine a_go ?_
          refine a_go ?_
          refine a_go ?_
          refine a_go ?_
          refine a_go ?_
          refine a_go ?_
          refine a_op ?_
          refine s_nil (r_false ?_)
          refine q_next ?_
          refine a_true ?_
          refine k_seq ?_
          refine k_region rfl ?_
          refine a_call [] false (awake_good Γ hE) ?_
          refine a_op ?_
          refine s_nil (r_false ?_)
          refine q_next ?_
          refine k_ret ?_
          refine q_seq_ret (q_block_ret (q_seq_ret (q_loopF_ret (q_block_ret (q_seq_ret ?_)))))
          refine ⟨.inr rfl, a_ret [] (by rw [results5]) ?_ ?_ ?_⟩ <;> simp [-List.map_set, -List.map_replicate, -List.reduceReplicate, -List.map_map, -List.map_drop, -List.map_take, num, bol, txt, w8, w16, w32, w64, lst, cls, rowO, boxO, List.take_of_length_le, acT]
        · skip
          iterate 8 refine a_op ?_
          refine a_go ?_
          refine a_go ?_
          refine a_go ?_
          refine a_go ?_
          refine a_go ?_
          refine a_go ?_
          refine a_go ?_
          refine a_go ?_
          refine a_op ?_
          refine s_nil (r_false ?_)
          refine q_next ?_
          refine a_false ?_
          refine k_skip ?_
          refine q_next ?_
          refine k_meetF (fun sl L (q : RQ) => ⟨setAll (setBad sl [4, 47, 48, 49, 50, 51, 52, 53, 54, 55, 56, 57, 58, 59, 60, 61, 62, 63, 64, 65, 66, 67, 68, 69, 70, 71, 72, 73, 74, 75, 76, 77, 78, 79, 80, 81, 82, 83, 84, 85, 86, 87, 88, 89, 90, 91, 92, 93, 94, 95, 96, 97, 98, 99, 100, 101, 102, 103, 104, 105, 106, 107, 108, 109, 110, 111, 112, 113, 114, 115, 116, 117, 118, 119, 120, 121, 122]) [], Go.Ot.look (putL (.r 3 1 0) (boxO 57 [.t (txt (q.2.2.1 0)), .t (txt (q.2.2.1 1)), .t (txt (q.2.2.1 2)), .t (txt (q.2.2.1 3)), loD q.1 (.r 16 11 0) q.2.2.2.1.length, .t (num (q.2.2.2.2.1)), .t (.v (.slice none 0 0)), .t (num (q.2.2.2.2.2.1)), .t (bol (q.2.1))]) (putL (.r 3 3 0) (boxO 52 [.t (txt (q.2.2.1 0)), .t (txt (q.2.2.1 1)), .t (txt (q.2.2.1 2)), .t (txt (q.2.2.1 3)), loD q.1 (.r 16 24 0) q.2.2.2.1.length, .t (num (q.2.2.2.2.2.2)), .t (bol (q.2.1))]) (rowL q.1 (.r 16 11 0) q.2.2.2.1 (rowM q.1 (.r 16 24 0) q.2.2.2.1 []))))⟩) (RI (j + 1)) ?_ ?_
          · skip
            refine k_seq ?_
            refine k_region rfl ?_
            iterate 5 refine a_op ?_
            refine s_nil (r_false ?_)
            refine q_next ?_
            refine k_block ?_
            refine k_seq ?_
            refine k_seq ?_
            refine k_region rfl ?_
            have hjj : j < l0.length := by omega
            have hin : (l0.getD j default) ∈ l0 := by rw [List.getD_eq_getElem?_getD, List.getElem?_eq_getElem hjj]; exact List.getElem_mem _
            obtain ⟨hpi, hpc, hks⟩ := hP _ hin
            have hl : l.length ≤ 1000000 := by omega
            have h6 : (z = true ∧ l = [] ∧ dn = true) ∨ (z = true ∧ l = [] ∧ dn = false) ∨ (z = false ∧ dn = true) ∨ (z = false ∧ dn = false) := by
              rcases z with _ | _ <;> rcases dn with _ | _ <;> simp_all
            clear hz
            rcases h6 with ⟨rfl, rfl, rfl⟩ | ⟨rfl, rfl, rfl⟩ | ⟨rfl, rfl⟩ | ⟨rfl, rfl⟩ <;> rcases (show (0 ≤ (l0.getD j default).k ∧ (l0.getD j default).k ≤ 3) ∨ (l0.getD j default).k = 4 ∨ (l0.getD j default).k = 5 ∨ (l0.getD j default).k = 6 ∨ ((l0.getD j default).k < 0 ∨ 6 < (l0.getD j default).k) by omega) with hk | hk | hk | hk | hk
            · skip
              refine a_op ?_
              refine a_op ?_
              refine s_nil (r_false ?_)
              refine q_next ?_
              refine a_if (fun hc4 => ?_) (fun hc4 => ?_)
              · (try simp only [Bool.and_eq_true, Bool.or_eq_true, Bool.or_eq_false_iff, Bool.not_eq_true', Bool.not_eq_false', dec_t, dec_f, Bool.and_eq_false_imp, beq_iff_eq, beq_eq_false_iff_ne, ne_eq] at hc4)
                simp only [bdec_pos hc4]
                refine k_skip ?_
                refine q_next ?_
                refine a_true ?_
                refine k_seq ?_
                refine k_region rfl ?_
                skip
                iterate 6 refine a_opd ?_
                skip
                iterate 5 refine a_opd ?_
                refine a_callpd [.r 3 1 0] [] [] false (wr_dnN Γ hE s cr ct (l0.getD j default).i (l0.getD j default).x) ?_
                refine a_calld [] false (num_good Γ 13) ?_
                iterate 6 refine a_opd ?_
                skip
                iterate 5 refine a_opd ?_
                refine a_callpd [.r 3 3 0] [] [] false (rwr_dnN Γ s lf (l0.getD j default).i (l0.getD j default).x) ?_
                refine a_opd ?_
                refine s_nil (r_true (by kernel_rfl) ?_)
                refine q_next ?_
                refine a_false ?_
                refine k_skip ?_
                refine q_block (q_meetF ((true, true, s, [], cr, ct, lf)) (a_le ?_) ?_)
                · refine le_of [(.r 3 1 0, .r 3 1 0), (.r 3 3 0, .r 3 3 0)] ?_ ?_ ?_ <;> simp [-List.map_set, -List.map_replicate, -List.reduceReplicate, -List.map_map, -List.map_drop, -List.map_take, num, bol, txt, w8, w16, w32, w64, lst, cls, rowO, boxO, List.take_of_length_le, acT, chL_app, chL]
                · refine ⟨?_, ?_, ?_, ?_, ?_, ?_, ?_⟩ <;> (try simp only [List.length_append, List.length_cons, List.length_nil]) <;> first | omega | exact In4_nil | exact In4_snoc h4 hm4 | exact In4_snoc In4_nil hm4 | exact h4 | (intro _; rfl) | (intro _; exact True.intro) | (intro h; cases h)
              · (try simp only [Bool.and_eq_true, Bool.or_eq_true, Bool.or_eq_false_iff, Bool.not_eq_true', Bool.not_eq_false', dec_t, dec_f, Bool.and_eq_false_imp, beq_iff_eq, beq_eq_false_iff_ne, ne_eq] at hc4)
                refine k_seq ?_
                refine k_region rfl ?_
                refine a_op ?_
                refine a_op ?_
                refine s_nil (r_false ?_)
                refine q_next ?_
                refine a_if (fun hc5 => ?_) (fun hc5 => ?_)
                · (try simp only [Bool.and_eq_true, Bool.or_eq_true, Bool.or_eq_false_iff, Bool.not_eq_true', Bool.not_eq_false', dec_t, dec_f, Bool.and_eq_false_imp, beq_iff_eq, beq_eq_false_iff_ne, ne_eq] at hc5)
                  simp only [bdec_pos hc5]
                  refine k_skip ?_
                  refine q_next ?_
                  refine a_true ?_
                  refine k_seq ?_
                  refine k_region rfl ?_
                  skip
                  iterate 6 refine a_opd ?_
                  skip
                  iterate 5 refine a_opd ?_
                  refine a_callpd [.r 3 1 0] [] [] false (wr_dnN Γ hE s cr ct (l0.getD j default).i (l0.getD j default).x) ?_
                  refine a_calld [] false (num_good Γ 13) ?_
                  iterate 6 refine a_opd ?_
                  skip
                  iterate 5 refine a_opd ?_
                  refine a_callpd [.r 3 3 0] [] [] false (rwr_dnN Γ s lf (l0.getD j default).i (l0.getD j default).x) ?_
                  refine a_opd ?_
                  refine s_nil (r_true (by kernel_rfl) ?_)
                  refine q_next ?_
                  refine a_false ?_
                  refine k_skip ?_
                  refine q_block (q_meetF ((true, true, s, [], cr, ct, lf)) (a_le ?_) ?_)
                  · refine le_of [(.r 3 1 0, .r 3 1 0), (.r 3 3 0, .r 3 3 0)] ?_ ?_ ?_ <;> simp [-List.map_set, -List.map_replicate, -List.reduceReplicate, -List.map_map, -List.map_drop, -List.map_take, num, bol, txt, w8, w16, w32, w64, lst, cls, rowO, boxO, List.take_of_length_le, acT, chL_app, chL]
                  · refine ⟨?_, ?_, ?_, ?_, ?_, ?_, ?_⟩ <;> (try simp only [List.length_append, List.length_cons, List.length_nil]) <;> first | omega | exact In4_nil | exact In4_snoc h4 hm4 | exact In4_snoc In4_nil hm4 | exact h4 | (intro _; rfl) | (intro _; exact True.intro) | (intro h; cases h)
                · (try simp only [Bool.and_eq_true, Bool.or_eq_true, Bool.or_eq_false_iff, Bool.not_eq_true', Bool.not_eq_false', dec_t, dec_f, Bool.and_eq_false_imp, beq_iff_eq, beq_eq_false_iff_ne, ne_eq] at hc5)
                  refine k_seq ?_
                  refine k_region rfl ?_
                  refine a_op ?_
                  refine a_op ?_
                  refine s_nil (r_false ?_)
                  refine q_next ?_
                  refine a_if (fun hc6 => ?_) (fun hc6 => ?_)
                  · (try simp only [Bool.and_eq_true, Bool.or_eq_true, Bool.or_eq_false_iff, Bool.not_eq_true', Bool.not_eq_false', dec_t, dec_f, Bool.and_eq_false_imp, beq_iff_eq, beq_eq_false_iff_ne, ne_eq] at hc6)
                    simp only [bdec_pos hc6]
                    refine k_skip ?_
                    refine q_next ?_
                    refine a_true ?_
                    refine k_seq ?_
                    refine k_region rfl ?_
                    skip
                    iterate 6 refine a_opd ?_
                    skip
                    iterate 5 refine a_opd ?_
                    refine a_callpd [.r 3 1 0] [] [] false (wr_dnN Γ hE s cr ct (l0.getD j default).i (l0.getD j default).x) ?_
                    refine a_calld [] false (num_good Γ 13) ?_
                    iterate 6 refine a_opd ?_
                    skip
                    iterate 5 refine a_opd ?_
                    refine a_callpd [.r 3 3 0] [] [] false (rwr_dnN Γ s lf (l0.getD j default).i (l0.getD j default).x) ?_
                    refine a_opd ?_
                    refine s_nil (r_true (by kernel_rfl) ?_)
                    refine q_next ?_
                    refine a_false ?_
                    refine k_skip ?_
                    refine q_block (q_meetF ((true, true, s, [], cr, ct, lf)) (a_le ?_) ?_)
                    · refine le_of [(.r 3 1 0, .r 3 1 0), (.r 3 3 0, .r 3 3 0)] ?_ ?_ ?_ <;> simp [-List.map_set, -List.map_replicate, -List.reduceReplicate, -List.map_map, -List.map_drop, -List.map_take, num, bol, txt, w8, w16, w32, w64, lst, cls, rowO, boxO, List.take_of_length_le, acT, chL_app, chL]
                    · refine ⟨?_, ?_, ?_, ?_, ?_, ?_, ?_⟩ <;> (try simp only [List.length_append, List.length_cons, List.length_nil]) <;> first | omega | exact In4_nil | exact In4_snoc h4 hm4 | exact In4_snoc In4_nil hm4 | exact h4 | (intro _; rfl) | (intro _; exact True.intro) | (intro h; cases h)
                  · (try simp only [Bool.and_eq_true, Bool.or_eq_true, Bool.or_eq_false_iff, Bool.not_eq_true', Bool.not_eq_false', dec_t, dec_f, Bool.and_eq_false_imp, beq_iff_eq, beq_eq_false_iff_ne, ne_eq] at hc6)
                    refine k_region rfl ?_
                    refine a_op ?_
                    simp only [bdec_pos (show (l0.getD j default).k = 3 by omega)]
                    refine a_op ?_
                    refine s_nil (r_false ?_)
                    refine q_next ?_
                    refine a_true ?_
                    refine k_seq ?_
                    refine k_region rfl ?_
                    skip
                    iterate 6 refine a_opd ?_
                    skip
                    iterate 5 refine a_opd ?_
                    refine a_callpd [.r 3 1 0] [] [] false (wr_dnN Γ hE s cr ct (l0.getD j default).i (l0.getD j default).x) ?_
                    refine a_calld [] false (num_good Γ 13) ?_
                    iterate 6 refine a_opd ?_
                    skip
                    iterate 5 refine a_opd ?_
                    refine a_callpd [.r 3 3 0] [] [] false (rwr_dnN Γ s lf (l0.getD j default).i (l0.getD j default).x) ?_
                    refine a_opd ?_
                    refine s_nil (r_true (by kernel_rfl) ?_)
                    refine q_next ?_
                    refine a_false ?_
                    refine k_skip ?_
                    refine q_block (q_meetF ((true, true, s, [], cr, ct, lf)) (a_le ?_) ?_)
                    · refine le_of [(.r 3 1 0, .r 3 1 0), (.r 3 3 0, .r 3 3 0)] ?_ ?_ ?_ <;> simp [-List.map_set, -List.map_replicate, -List.reduceReplicate, -List.map_map, -List.map_drop, -List.map_take, num, bol, txt, w8, w16, w32, w64, lst, cls, rowO, boxO, List.take_of_length_le, acT, chL_app, chL]
                    · refine ⟨?_, ?_, ?_, ?_, ?_, ?_, ?_⟩ <;> (try simp only [List.length_append, List.length_cons, List.length_nil]) <;> first | omega | exact In4_nil | exact In4_snoc h4 hm4 | exact In4_snoc In4_nil hm4 | exact h4 | (intro _; rfl) | (intro _; exact True.intro) | (intro h; cases h)
            · skip
              refine a_op ?_
              refine a_op ?_
              refine s_nil (r_false ?_)
              refine q_next ?_
              refine a_false ?_
              refine k_seq ?_
              refine k_region rfl ?_
              refine a_op ?_
              refine a_op ?_
              refine s_nil (r_false ?_)
              refine q_next ?_
              refine a_false ?_
              refine k_seq ?_
              refine k_region rfl ?_
              refine a_op ?_
              refine a_op ?_
              refine s_nil (r_false ?_)
              refine q_next ?_
              refine a_false ?_
              refine k_region rfl ?_
              refine a_op ?_
              skip
              refine a_op ?_
              refine s_nil (r_false ?_)
              refine q_next ?_
              refine a_false ?_
              refine k_seq ?_
              refine k_region rfl ?_
              refine a_op ?_
              refine a_op ?_
              refine s_nil (r_false ?_)
              refine q_next ?_
              refine a_true ?_
              refine k_seq ?_
              refine k_region rfl ?_
              skip
              refine a_op ?_
              refine a_callp [.r 3 1 0] [] [] false (sy_dnN Γ hE s cr ct) ?_
              refine a_call [] false (num_good Γ 13) ?_
              refine a_op ?_
              refine a_callp [.r 3 3 0] [] [] false (rsy_dnN Γ s lf) ?_
              refine a_op ?_
              refine s_nil (r_false ?_)
              refine q_next ?_
              refine a_false ?_
              refine k_skip ?_
              refine q_block (q_meetF ((true, true, s, [], cr, ct, lf)) (a_le ?_) ?_)
              · refine le_of [(.r 3 1 0, .r 3 1 0), (.r 3 3 0, .r 3 3 0)] ?_ ?_ ?_ <;> simp [-List.map_set, -List.map_replicate, -List.reduceReplicate, -List.map_map, -List.map_drop, -List.map_take, num, bol, txt, w8, w16, w32, w64, lst, cls, rowO, boxO, List.take_of_length_le, acT, chL_app, chL]
              · refine ⟨?_, ?_, ?_, ?_, ?_, ?_, ?_⟩ <;> (try simp only [List.length_append, List.length_cons, List.length_nil]) <;> first | omega | exact In4_nil | exact In4_snoc h4 hm4 | exact In4_snoc In4_nil hm4 | exact h4 | (intro _; rfl) | (intro _; exact True.intro) | (intro h; cases h)
            · skip
              refine a_op ?_
              refine a_op ?_
              refine s_nil (r_false ?_)
              refine q_next ?_
              refine a_false ?_
              refine k_seq ?_
              refine k_region rfl ?_
              refine a_op ?_
              refine a_op ?_
              refine s_nil (r_false ?_)
              refine q_next ?_
              refine a_false ?_
              refine k_seq ?_
              refine k_region rfl ?_
              refine a_op ?_
              refine a_op ?_
              refine s_nil (r_false ?_)
              refine q_next ?_
              refine a_false ?_
              refine k_region rfl ?_
              refine a_op ?_
              skip
              refine a_op ?_
              refine s_nil (r_false ?_)
              refine q_next ?_
              refine a_false ?_
              refine k_seq ?_
              refine k_region rfl ?_
              refine a_op ?_
              refine a_op ?_
              refine s_nil (r_false ?_)
              refine q_next ?_
              refine a_false ?_
              refine k_seq ?_
              refine k_region rfl ?_
              refine a_op ?_
              refine a_op ?_
              refine s_nil (r_false ?_)
              refine q_next ?_
              refine a_true ?_
              refine k_seq ?_
              refine k_region rfl ?_
              iterate 6 refine a_op ?_
              refine a_callp [.r 3 1 0] [] [] false (tearN Γ s cr ct true (l0.getD j default).i) ?_
              refine s_nil (r_false ?_)
              refine q_next ?_
              refine k_region rfl ?_
              iterate 6 refine a_op ?_
              refine a_callp [.r 3 3 0] [] [] false (rtearN Γ s lf true (l0.getD j default).i) ?_
              refine s_nil (r_false ?_)
              refine q_block (q_meetF ((true, true, s, [], (l0.getD j default).i, 0, max 0 (l0.getD j default).i)) (a_le ?_) ?_)
              · refine le_of [(.r 3 1 0, .r 3 1 0), (.r 3 3 0, .r 3 3 0)] ?_ ?_ ?_ <;> simp [-List.map_set, -List.map_replicate, -List.reduceReplicate, -List.map_map, -List.map_drop, -List.map_take, num, bol, txt, w8, w16, w32, w64, lst, cls, rowO, boxO, List.take_of_length_le, acT, chL_app, chL]
              · refine ⟨?_, ?_, ?_, ?_, ?_, ?_, ?_⟩ <;> (try simp only [List.length_append, List.length_cons, List.length_nil]) <;> first | omega | exact In4_nil | exact In4_snoc h4 hm4 | exact In4_snoc In4_nil hm4 | exact h4 | (intro _; rfl) | (intro _; exact True.intro) | (intro h; cases h)
            · skip
              refine a_op ?_
              refine a_op ?_
              refine s_nil (r_false ?_)
              refine q_next ?_
              refine a_false ?_
              refine k_seq ?_
              refine k_region rfl ?_
              refine a_op ?_
              refine a_op ?_
              refine s_nil (r_false ?_)
              refine q_next ?_
              refine a_false ?_
              refine k_seq ?_
              refine k_region rfl ?_
              refine a_op ?_
              refine a_op ?_
              refine s_nil (r_false ?_)
              refine q_next ?_
              refine a_false ?_
              refine k_region rfl ?_
              refine a_op ?_
              skip
              refine a_op ?_
              refine s_nil (r_false ?_)
              refine q_next ?_
              refine a_false ?_
              refine k_seq ?_
              refine k_region rfl ?_
              refine a_op ?_
              refine a_op ?_
              refine s_nil (r_false ?_)
              refine q_next ?_
              refine a_false ?_
              refine k_seq ?_
              refine k_region rfl ?_
              refine a_op ?_
              refine a_op ?_
              refine s_nil (r_false ?_)
              refine q_next ?_
              refine a_false ?_
              refine k_seq ?_
              refine k_region rfl ?_
              refine a_op ?_
              refine a_op ?_
              refine s_nil (r_false ?_)
              refine q_next ?_
              refine a_true ?_
              refine k_seq ?_
              refine k_region rfl ?_
              iterate 6 refine a_op ?_
              refine a_callp [.r 3 1 0] [] [] false (fallN Γ s cr ct true (l0.getD j default).c (l0.getD j default).ks hks) ?_
              refine s_nil (r_false ?_)
              refine q_next ?_
              refine k_region rfl ?_
              iterate 6 refine a_op ?_
              refine a_callp [.r 3 3 0] [] [] false (rfallN Γ s lf true (l0.getD j default).c (l0.getD j default).ks hks) ?_
              refine s_nil (r_false ?_)
              refine q_block (q_meetF ((true, false, s, [], (l0.getD j default).c, 0, max 0 (l0.getD j default).c)) (a_le ?_) ?_)
              · refine le_of [(.r 3 1 0, .r 3 1 0), (.r 3 3 0, .r 3 3 0)] ?_ ?_ ?_ <;> simp [-List.map_set, -List.map_replicate, -List.reduceReplicate, -List.map_map, -List.map_drop, -List.map_take, num, bol, txt, w8, w16, w32, w64, lst, cls, rowO, boxO, List.take_of_length_le, acT, chL_app, chL]
              · refine ⟨?_, ?_, ?_, ?_, ?_, ?_, ?_⟩ <;> (try simp only [List.length_append, List.length_cons, List.length_nil]) <;> first | omega | exact In4_nil | exact In4_snoc h4 hm4 | exact In4_snoc In4_nil hm4 | exact h4 | (intro _; rfl) | (intro _; exact True.intro) | (intro h; cases h)
            · skip
              refine a_op ?_
              refine a_op ?_
              refine s_nil (r_false ?_)
              refine q_next ?_
              refine a_false ?_
              refine k_seq ?_
              refine k_region rfl ?_
              refine a_op ?_
              refine a_op ?_
              refine s_nil (r_false ?_)
              refine q_next ?_
              refine a_false ?_
              refine k_seq ?_
              refine k_region rfl ?_
              refine a_op ?_
              refine a_op ?_
              refine s_nil (r_false ?_)
              refine q_next ?_
              refine a_false ?_
              refine k_region rfl ?_
              refine a_op ?_
              skip
              refine a_op ?_
              refine s_nil (r_false ?_)
              refine q_next ?_
              refine a_false ?_
              refine k_seq ?_
              refine k_region rfl ?_
              refine a_op ?_
              refine a_op ?_
              refine s_nil (r_false ?_)
              refine q_next ?_
              refine a_false ?_
              refine k_seq ?_
              refine k_region rfl ?_
              refine a_op ?_
              refine a_op ?_
              refine s_nil (r_false ?_)
              refine q_next ?_
              refine a_false ?_
              refine k_seq ?_
              refine k_region rfl ?_
              refine a_op ?_
              refine a_op ?_
              refine s_nil (r_false ?_)
              refine q_next ?_
              refine a_false ?_
              refine k_skip ?_
              refine q_block (q_meetF ((true, true, s, [], cr, ct, lf)) (a_le ?_) ?_)
              · refine le_of [(.r 3 1 0, .r 3 1 0), (.r 3 3 0, .r 3 3 0)] ?_ ?_ ?_ <;> simp [-List.map_set, -List.map_replicate, -List.reduceReplicate, -List.map_map, -List.map_drop, -List.map_take, num, bol, txt, w8, w16, w32, w64, lst, cls, rowO, boxO, List.take_of_length_le, acT, chL_app, chL]
              · refine ⟨?_, ?_, ?_, ?_, ?_, ?_, ?_⟩ <;> (try simp only [List.length_append, List.length_cons, List.length_nil]) <;> first | omega | exact In4_nil | exact In4_snoc h4 hm4 | exact In4_snoc In4_nil hm4 | exact h4 | (intro _; rfl) | (intro _; exact True.intro) | (intro h; cases h)
            · skip
              refine a_op ?_
              refine a_op ?_
              refine s_nil (r_false ?_)
              refine q_next ?_
              refine a_if (fun hc4 => ?_) (fun hc4 => ?_)
              · (try simp only [Bool.and_eq_true, Bool.or_eq_true, Bool.or_eq_false_iff, Bool.not_eq_true', Bool.not_eq_false', dec_t, dec_f, Bool.and_eq_false_imp, beq_iff_eq, beq_eq_false_iff_ne, ne_eq] at hc4)
                simp only [bdec_pos hc4]
                refine k_skip ?_
                refine q_next ?_
                refine a_true ?_
                refine k_seq ?_
                refine k_region rfl ?_
                rcases (show ((l0.getD j default).i < 0 ∨ 4 ≤ (l0.getD j default).i) ∨ ((0 ≤ (l0.getD j default).i ∧ (l0.getD j default).i < 4) ∧ ct + 1 = cr) ∨ ((0 ≤ (l0.getD j default).i ∧ (l0.getD j default).i < 4) ∧ ¬ ct + 1 = cr) by omega) with hix | ⟨hix, hla⟩ | ⟨hix, hla⟩
                · skip
                  iterate 6 refine a_opd ?_
                  skip
                  iterate 5 refine a_opd ?_
                  refine a_callpd [.r 3 1 0] [] [] false (wr_argN Γ hE s cr ct (l0.getD j default).i (l0.getD j default).x hix) ?_
                  refine a_calld [] false (num_good Γ 1) ?_
                  iterate 6 refine a_opd ?_
                  skip
                  iterate 5 refine a_opd ?_
                  refine a_callpd [.r 3 3 0] [] [] false (rwr_argN Γ s lf (l0.getD j default).i (l0.getD j default).x hix) ?_
                  refine a_opd ?_
                  refine s_nil (r_true (by kernel_rfl) ?_)
                  refine q_next ?_
                  refine a_false ?_
                  refine k_skip ?_
                  refine q_block (q_meetF ((true, false, s, [], cr, ct, lf)) (a_le ?_) ?_)
                  · refine le_of [(.r 3 1 0, .r 3 1 0), (.r 3 3 0, .r 3 3 0)] ?_ ?_ ?_ <;> simp [-List.map_set, -List.map_replicate, -List.reduceReplicate, -List.map_map, -List.map_drop, -List.map_take, num, bol, txt, w8, w16, w32, w64, lst, cls, rowO, boxO, List.take_of_length_le, acT, chL_app, chL]
                  · refine ⟨?_, ?_, ?_, ?_, ?_, ?_, ?_⟩ <;> (try simp only [List.length_append, List.length_cons, List.length_nil]) <;> first | omega | exact In4_nil | exact In4_snoc h4 hm4 | exact In4_snoc In4_nil hm4 | exact h4 | (intro _; rfl) | (intro _; exact True.intro) | (intro h; cases h)
                · obtain rfl : lf = 1 := by omega
                  iterate 6 refine a_opd ?_
                  skip
                  iterate 5 refine a_opd ?_
                  refine a_callpd [.r 3 1 0] [] [] false (wr_lastN Γ hE s cr ct (l0.getD j default).i (l0.getD j default).x (by omega) (by omega) (by omega) (by omega)) ?_
                  refine a_calld [] false (num_good Γ 13) ?_
                  iterate 6 refine a_opd ?_
                  skip
                  iterate 5 refine a_opd ?_
                  refine a_callpd [.r 3 3 0] [] [] false (rwr_lastN Γ s (l0.getD j default).i (l0.getD j default).x (by omega) (by omega)) ?_
                  refine a_opd ?_
                  refine s_nil (r_true (by kernel_rfl) ?_)
                  refine q_next ?_
                  refine a_false ?_
                  refine k_skip ?_
                  refine q_block (q_meetF ((true, true, s, [], cr, ct + 1, 0)) (a_le ?_) ?_)
                  · refine le_of [(.r 3 1 0, .r 3 1 0), (.r 3 3 0, .r 3 3 0)] ?_ ?_ ?_ <;> simp [-List.map_set, -List.map_replicate, -List.reduceReplicate, -List.map_map, -List.map_drop, -List.map_take, num, bol, txt, w8, w16, w32, w64, lst, cls, rowO, boxO, List.take_of_length_le, acT, chL_app, chL]
                  · refine ⟨?_, ?_, ?_, ?_, ?_, ?_, ?_⟩ <;> (try simp only [List.length_append, List.length_cons, List.length_nil]) <;> first | omega | exact In4_nil | exact In4_snoc h4 hm4 | exact In4_snoc In4_nil hm4 | exact h4 | (intro _; rfl) | (intro _; exact True.intro) | (intro h; cases h)
                · obtain ⟨m, hm⟩ : ∃ m : Nat, (l0.getD j default).i = (m : Int) := ⟨(l0.getD j default).i.toNat, by omega⟩
                  have hm4 : m < 4 := by omega
                  iterate 6 refine a_opd ?_
                  simp only [hm]
                  iterate 5 refine a_opd ?_
                  refine a_callpd [.r 3 1 0] [] [] false (wr_okN Γ s cr ct m (l0.getD j default).x hm4 (by omega) (by omega)) ?_
                  refine a_calld [] false (num_good Γ 0) ?_
                  iterate 6 refine a_opd ?_
                  simp only [hm]
                  iterate 5 refine a_opd ?_
                  refine a_callpd [.r 3 3 0] [] [] false (rwr_okN Γ s lf (by omega) (by omega) (by omega) m (l0.getD j default).x hm4) ?_
                  refine a_opd ?_
                  refine s_nil (r_true (by kernel_rfl) ?_)
                  refine q_next ?_
                  refine a_false ?_
                  refine k_skip ?_
                  refine q_block (q_meetF ((false, false, s, [(m, (l0.getD j default).x)], cr, ct + 1, max 0 (lf - 1))) (a_le ?_) ?_)
                  · refine le_of [(.r 3 1 0, .r 3 1 0), (.r 3 3 0, .r 3 3 0), (.r 16 11 0, .r 16 11 0), (.r 16 24 0, .r 16 24 0)] ?_ ?_ ?_ <;> simp [-List.map_set, -List.map_replicate, -List.reduceReplicate, -List.map_map, -List.map_drop, -List.map_take, num, bol, txt, w8, w16, w32, w64, lst, cls, rowO, boxO, List.take_of_length_le, acT, chL_app, chL]
                  · refine ⟨?_, ?_, ?_, ?_, ?_, ?_, ?_⟩ <;> (try simp only [List.length_append, List.length_cons, List.length_nil]) <;> first | omega | exact In4_nil | exact In4_snoc h4 hm4 | exact In4_snoc In4_nil hm4 | exact h4 | (intro _; rfl) | (intro _; exact True.intro) | (intro h; cases h)
              · (try simp only [Bool.and_eq_true, Bool.or_eq_true, Bool.or_eq_false_iff, Bool.not_eq_true', Bool.not_eq_false', dec_t, dec_f, Bool.and_eq_false_imp, beq_iff_eq, beq_eq_false_iff_ne, ne_eq] at hc4)
                refine k_seq ?_
                refine k_region rfl ?_
                refine a_op ?_
                refine a_op ?_
                refine s_nil (r_false ?_)
                refine q_next ?_
                refine a_if (fun hc5 => ?_) (fun hc5 => ?_)
                · (try simp only [Bool.and_eq_true, Bool.or_eq_true, Bool.or_eq_false_iff, Bool.not_eq_true', Bool.not_eq_false', dec_t, dec_f, Bool.and_eq_false_imp, beq_iff_eq, beq_eq_false_iff_ne, ne_eq] at hc5)
                  simp only [bdec_pos hc5]
                  refine k_skip ?_
                  refine q_next ?_
                  refine a_true ?_
                  refine k_seq ?_
                  refine k_region rfl ?_
                  rcases (show ((l0.getD j default).i < 0 ∨ 4 ≤ (l0.getD j default).i) ∨ ((0 ≤ (l0.getD j default).i ∧ (l0.getD j default).i < 4) ∧ ct + 1 = cr) ∨ ((0 ≤ (l0.getD j default).i ∧ (l0.getD j default).i < 4) ∧ ¬ ct + 1 = cr) by omega) with hix | ⟨hix, hla⟩ | ⟨hix, hla⟩
                  · skip
                    iterate 6 refine a_opd ?_
                    skip
                    iterate 5 refine a_opd ?_
                    refine a_callpd [.r 3 1 0] [] [] false (wr_argN Γ hE s cr ct (l0.getD j default).i (l0.getD j default).x hix) ?_
                    refine a_calld [] false (num_good Γ 1) ?_
                    iterate 6 refine a_opd ?_
                    skip
                    iterate 5 refine a_opd ?_
                    refine a_callpd [.r 3 3 0] [] [] false (rwr_argN Γ s lf (l0.getD j default).i (l0.getD j default).x hix) ?_
                    refine a_opd ?_
                    refine s_nil (r_true (by kernel_rfl) ?_)
                    refine q_next ?_
                    refine a_false ?_
                    refine k_skip ?_
                    refine q_block (q_meetF ((true, false, s, [], cr, ct, lf)) (a_le ?_) ?_)
                    · refine le_of [(.r 3 1 0, .r 3 1 0), (.r 3 3 0, .r 3 3 0)] ?_ ?_ ?_ <;> simp [-List.map_set, -List.map_replicate, -List.reduceReplicate, -List.map_map, -List.map_drop, -List.map_take, num, bol, txt, w8, w16, w32, w64, lst, cls, rowO, boxO, List.take_of_length_le, acT, chL_app, chL]
                    · refine ⟨?_, ?_, ?_, ?_, ?_, ?_, ?_⟩ <;> (try simp only [List.length_append, List.length_cons, List.length_nil]) <;> first | omega | exact In4_nil | exact In4_snoc h4 hm4 | exact In4_snoc In4_nil hm4 | exact h4 | (intro _; rfl) | (intro _; exact True.intro) | (intro h; cases h)
                  · obtain rfl : lf = 1 := by omega
                    iterate 6 refine a_opd ?_
                    skip
                    iterate 5 refine a_opd ?_
                    refine a_callpd [.r 3 1 0] [] [] false (wr_lastN Γ hE s cr ct (l0.getD j default).i (l0.getD j default).x (by omega) (by omega) (by omega) (by omega)) ?_
                    refine a_calld [] false (num_good Γ 13) ?_
                    iterate 6 refine a_opd ?_
                    skip
                    iterate 5 refine a_opd ?_
                    refine a_callpd [.r 3 3 0] [] [] false (rwr_lastN Γ s (l0.getD j default).i (l0.getD j default).x (by omega) (by omega)) ?_
                    refine a_opd ?_
                    refine s_nil (r_true (by kernel_rfl) ?_)
                    refine q_next ?_
                    refine a_false ?_
                    refine k_skip ?_
                    refine q_block (q_meetF ((true, true, s, [], cr, ct + 1, 0)) (a_le ?_) ?_)
                    · refine le_of [(.r 3 1 0, .r 3 1 0), (.r 3 3 0, .r 3 3 0)] ?_ ?_ ?_ <;> simp [-List.map_set, -List.map_replicate, -List.reduceReplicate, -List.map_map, -List.map_drop, -List.map_take, num, bol, txt, w8, w16, w32, w64, lst, cls, rowO, boxO, List.take_of_length_le, acT, chL_app, chL]
                    · refine ⟨?_, ?_, ?_, ?_, ?_, ?_, ?_⟩ <;> (try simp only [List.length_append, List.length_cons, List.length_nil]) <;> first | omega | exact In4_nil | exact In4_snoc h4 hm4 | exact In4_snoc In4_nil hm4 | exact h4 | (intro _; rfl) | (intro _; exact True.intro) | (intro h; cases h)
                  · obtain ⟨m, hm⟩ : ∃ m : Nat, (l0.getD j default).i = (m : Int) := ⟨(l0.getD j default).i.toNat, by omega⟩
                    have hm4 : m < 4 := by omega
                    iterate 6 refine a_opd ?_
                    simp only [hm]
                    iterate 5 refine a_opd ?_
                    refine a_callpd [.r 3 1 0] [] [] false (wr_okN Γ s cr ct m (l0.getD j default).x hm4 (by omega) (by omega)) ?_
                    refine a_calld [] false (num_good Γ 0) ?_
                    iterate 6 refine a_opd ?_
                    simp only [hm]
                    iterate 5 refine a_opd ?_
                    refine a_callpd [.r 3 3 0] [] [] false (rwr_okN Γ s lf (by omega) (by omega) (by omega) m (l0.getD j default).x hm4) ?_
                    refine a_opd ?_
                    refine s_nil (r_true (by kernel_rfl) ?_)
                    refine q_next ?_
                    refine a_false ?_
                    refine k_skip ?_
                    refine q_block (q_meetF ((false, false, s, [(m, (l0.getD j default).x)], cr, ct + 1, max 0 (lf - 1))) (a_le ?_) ?_)
                    · refine le_of [(.r 3 1 0, .r 3 1 0), (.r 3 3 0, .r 3 3 0), (.r 16 11 0, .r 16 11 0), (.r 16 24 0, .r 16 24 0)] ?_ ?_ ?_ <;> simp [-List.map_set, -List.map_replicate, -List.reduceReplicate, -List.map_map, -List.map_drop, -List.map_take, num, bol, txt, w8, w16, w32, w64, lst, cls, rowO, boxO, List.take_of_length_le, acT, chL_app, chL]
                    · refine ⟨?_, ?_, ?_, ?_, ?_, ?_, ?_⟩ <;> (try simp only [List.length_append, List.length_cons, List.length_nil]) <;> first | omega | exact In4_nil | exact In4_snoc h4 hm4 | exact In4_snoc In4_nil hm4 | exact h4 | (intro _; rfl) | (intro _; exact True.intro) | (intro h; cases h)
                · (try simp only [Bool.and_eq_true, Bool.or_eq_true, Bool.or_eq_false_iff, Bool.not_eq_true', Bool.not_eq_false', dec_t, dec_f, Bool.and_eq_false_imp, beq_iff_eq, beq_eq_false_iff_ne, ne_eq] at hc5)
                  refine k_seq ?_
                  refine k_region rfl ?_
                  refine a_op ?_
                  refine a_op ?_
                  refine s_nil (r_false ?_)
                  refine q_next ?_
                  refine a_if (fun hc6 => ?_) (fun hc6 => ?_)
                  · (try simp only [Bool.and_eq_true, Bool.or_eq_true, Bool.or_eq_false_iff, Bool.not_eq_true', Bool.not_eq_false', dec_t, dec_f, Bool.and_eq_false_imp, beq_iff_eq, beq_eq_false_iff_ne, ne_eq] at hc6)
                    simp only [bdec_pos hc6]
                    refine k_skip ?_
                    refine q_next ?_
                    refine a_true ?_
                    refine k_seq ?_
                    refine k_region rfl ?_
                    rcases (show ((l0.getD j default).i < 0 ∨ 4 ≤ (l0.getD j default).i) ∨ ((0 ≤ (l0.getD j default).i ∧ (l0.getD j default).i < 4) ∧ ct + 1 = cr) ∨ ((0 ≤ (l0.getD j default).i ∧ (l0.getD j default).i < 4) ∧ ¬ ct + 1 = cr) by omega) with hix | ⟨hix, hla⟩ | ⟨hix, hla⟩
                    · skip
                      iterate 6 refine a_opd ?_
                      skip
                      iterate 5 refine a_opd ?_
                      refine a_callpd [.r 3 1 0] [] [] false (wr_argN Γ hE s cr ct (l0.getD j default).i (l0.getD j default).x hix) ?_
                      refine a_calld [] false (num_good Γ 1) ?_
                      iterate 6 refine a_opd ?_
                      skip
                      iterate 5 refine a_opd ?_
                      refine a_callpd [.r 3 3 0] [] [] false (rwr_argN Γ s lf (l0.getD j default).i (l0.getD j default).x hix) ?_
                      refine a_opd ?_
                      refine s_nil (r_true (by kernel_rfl) ?_)
                      refine q_next ?_
                      refine a_false ?_
                      refine k_skip ?_
                      refine q_block (q_meetF ((true, false, s, [], cr, ct, lf)) (a_le ?_) ?_)
                      · refine le_of [(.r 3 1 0, .r 3 1 0), (.r 3 3 0, .r 3 3 0)] ?_ ?_ ?_ <;> simp [-List.map_set, -List.map_replicate, -List.reduceReplicate, -List.map_map, -List.map_drop, -List.map_take, num, bol, txt, w8, w16, w32, w64, lst, cls, rowO, boxO, List.take_of_length_le, acT, chL_app, chL]
                      · refine ⟨?_, ?_, ?_, ?_, ?_, ?_, ?_⟩ <;> (try simp only [List.length_append, List.length_cons, List.length_nil]) <;> first | omega | exact In4_nil | exact In4_snoc h4 hm4 | exact In4_snoc In4_nil hm4 | exact h4 | (intro _; rfl) | (intro _; exact True.intro) | (intro h; cases h)
                    · obtain rfl : lf = 1 := by omega
                      iterate 6 refine a_opd ?_
                      skip
                      iterate 5 refine a_opd ?_
                      refine a_callpd [.r 3 1 0] [] [] false (wr_lastN Γ hE s cr ct (l0.getD j default).i (l0.getD j default).x (by omega) (by omega) (by omega) (by omega)) ?_
                      refine a_calld [] false (num_good Γ 13) ?_
                      iterate 6 refine a_opd ?_
                      skip
                      iterate 5 refine a_opd ?_
                      refine a_callpd [.r 3 3 0] [] [] false (rwr_lastN Γ s (l0.getD j default).i (l0.getD j default).x (by omega) (by omega)) ?_
                      refine a_opd ?_
                      refine s_nil (r_true (by kernel_rfl) ?_)
                      refine q_next ?_
                      refine a_false ?_
                      refine k_skip ?_
                      refine q_block (q_meetF ((true, true, s, [], cr, ct + 1, 0)) (a_le ?_) ?_)
                      · refine le_of [(.r 3 1 0, .r 3 1 0), (.r 3 3 0, .r 3 3 0)] ?_ ?_ ?_ <;> simp [-List.map_set, -List.map_replicate, -List.reduceReplicate, -List.map_map, -List.map_drop, -List.map_take, num, bol, txt, w8, w16, w32, w64, lst, cls, rowO, boxO, List.take_of_length_le, acT, chL_app, chL]
                      · refine ⟨?_, ?_, ?_, ?_, ?_, ?_, ?_⟩ <;> (try simp only [List.length_append, List.length_cons, List.length_nil]) <;> first | omega | exact In4_nil | exact In4_snoc h4 hm4 | exact In4_snoc In4_nil hm4 | exact h4 | (intro _; rfl) | (intro _; exact True.intro) | (intro h; cases h)
                    · obtain ⟨m, hm⟩ : ∃ m : Nat, (l0.getD j default).i = (m : Int) := ⟨(l0.getD j default).i.toNat, by omega⟩
                      have hm4 : m < 4 := by omega
                      iterate 6 refine a_opd ?_
                      simp only [hm]
                      iterate 5 refine a_opd ?_
                      refine a_callpd [.r 3 1 0] [] [] false (wr_okN Γ s cr ct m (l0.getD j default).x hm4 (by omega) (by omega)) ?_
                      refine a_calld [] false (num_good Γ 0) ?_
                      iterate 6 refine a_opd ?_
                      simp only [hm]
                      iterate 5 refine a_opd ?_
                      refine a_callpd [.r 3 3 0] [] [] false (rwr_okN Γ s lf (by omega) (by omega) (by omega) m (l0.getD j default).x hm4) ?_
                      refine a_opd ?_
                      refine s_nil (r_true (by kernel_rfl) ?_)
                      refine q_next ?_
                      refine a_false ?_
                      refine k_skip ?_
                      refine q_block (q_meetF ((false, false, s, [(m, (l0.getD j default).x)], cr, ct + 1, max 0 (lf - 1))) (a_le ?_) ?_)
                      · refine le_of [(.r 3 1 0, .r 3 1 0), (.r 3 3 0, .r 3 3 0), (.r 16 11 0, .r 16 11 0), (.r 16 24 0, .r 16 24 0)] ?_ ?_ ?_ <;> simp [-List.map_set, -List.map_replicate, -List.reduceReplicate, -List.map_map, -List.map_drop, -List.map_take, num, bol, txt, w8, w16, w32, w64, lst, cls, rowO, boxO, List.take_of_length_le, acT, chL_app, chL]
                      · refine ⟨?_, ?_, ?_, ?_, ?_, ?_, ?_⟩ <;> (try simp only [List.length_append, List.length_cons, List.length_nil]) <;> first | omega | exact In4_nil | exact In4_snoc h4 hm4 | exact In4_snoc In4_nil hm4 | exact h4 | (intro _; rfl) | (intro _; exact True.intro) | (intro h; cases h)
                  · (try simp only [Bool.and_eq_true, Bool.or_eq_true, Bool.or_eq_false_iff, Bool.not_eq_true', Bool.not_eq_false', dec_t, dec_f, Bool.and_eq_false_imp, beq_iff_eq, beq_eq_false_iff_ne, ne_eq] at hc6)
                    refine k_region rfl ?_
                    refine a_op ?_
                    simp only [bdec_pos (show (l0.getD j default).k = 3 by omega)]
                    refine a_op ?_
                    refine s_nil (r_false ?_)
                    refine q_next ?_
                    refine a_true ?_
                    refine k_seq ?_
                    refine k_region rfl ?_
                    rcases (show ((l0.getD j default).i < 0 ∨ 4 ≤ (l0.getD j default).i) ∨ ((0 ≤ (l0.getD j default).i ∧ (l0.getD j default).i < 4) ∧ ct + 1 = cr) ∨ ((0 ≤ (l0.getD j default).i ∧ (l0.getD j default).i < 4) ∧ ¬ ct + 1 = cr) by omega) with hix | ⟨hix, hla⟩ | ⟨hix, hla⟩
                    · skip
                      iterate 6 refine a_opd ?_
                      skip
                      iterate 5 refine a_opd ?_
                      refine a_callpd [.r 3 1 0] [] [] false (wr_argN Γ hE s cr ct (l0.getD j default).i (l0.getD j default).x hix) ?_
                      refine a_calld [] false (num_good Γ 1) ?_
                      iterate 6 refine a_opd ?_
                      skip
                      iterate 5 refine a_opd ?_
                      refine a_callpd [.r 3 3 0] [] [] false (rwr_argN Γ s lf (l0.getD j default).i (l0.getD j default).x hix) ?_
                      refine a_opd ?_
                      refine s_nil (r_true (by kernel_rfl) ?_)
                      refine q_next ?_
                      refine a_false ?_
                      refine k_skip ?_
                      refine q_block (q_meetF ((true, false, s, [], cr, ct, lf)) (a_le ?_) ?_)
                      · refine le_of [(.r 3 1 0, .r 3 1 0), (.r 3 3 0, .r 3 3 0)] ?_ ?_ ?_ <;> simp [-List.map_set, -List.map_replicate, -List.reduceReplicate, -List.map_map, -List.map_drop, -List.map_take, num, bol, txt, w8, w16, w32, w64, lst, cls, rowO, boxO, List.take_of_length_le, acT, chL_app, chL]
                      · refine ⟨?_, ?_, ?_, ?_, ?_, ?_, ?_⟩ <;> (try simp only [List.length_append, List.length_cons, List.length_nil]) <;> first | omega | exact In4_nil | exact In4_snoc h4 hm4 | exact In4_snoc In4_nil hm4 | exact h4 | (intro _; rfl) | (intro _; exact True.intro) | (intro h; cases h)
                    · obtain rfl : lf = 1 := by omega
                      iterate 6 refine a_opd ?_
                      skip
                      iterate 5 refine a_opd ?_
                      refine a_callpd [.r 3 1 0] [] [] false (wr_lastN Γ hE s cr ct (l0.getD j default).i (l0.getD j default).x (by omega) (by omega) (by omega) (by omega)) ?_
                      refine a_calld [] false (num_good Γ 13) ?_
                      iterate 6 refine a_opd ?_
                      skip
                      iterate 5 refine a_opd ?_
                      refine a_callpd [.r 3 3 0] [] [] false (rwr_lastN Γ s (l0.getD j default).i (l0.getD j default).x (by omega) (by omega)) ?_
                      refine a_opd ?_
                      refine s_nil (r_true (by kernel_rfl) ?_)
                      refine q_next ?_
                      refine a_false ?_
                      refine k_skip ?_
                      refine q_block (q_meetF ((true, true, s, [], cr, ct + 1, 0)) (a_le ?_) ?_)
                      · refine le_of [(.r 3 1 0, .r 3 1 0), (.r 3 3 0, .r 3 3 0)] ?_ ?_ ?_ <;> simp [-List.map_set, -List.map_replicate, -List.reduceReplicate, -List.map_map, -List.map_drop, -List.map_take, num, bol, txt, w8, w16, w32, w64, lst, cls, rowO, boxO, List.take_of_length_le, acT, chL_app, chL]
                      · refine ⟨?_, ?_, ?_, ?_, ?_, ?_, ?_⟩ <;> (try simp only [List.length_append, List.length_cons, List.length_nil]) <;> first | omega | exact In4_nil | exact In4_snoc h4 hm4 | exact In4_snoc In4_nil hm4 | exact h4 | (intro _; rfl) | (intro _; exact True.intro) | (intro h; cases h)
                    · obtain ⟨m, hm⟩ : ∃ m : Nat, (l0.getD j default).i = (m : Int) := ⟨(l0.getD j default).i.toNat, by omega⟩
                      have hm4 : m < 4 := by omega
                      iterate 6 refine a_opd ?_
                      simp only [hm]
                      iterate 5 refine a_opd ?_
                      refine a_callpd [.r 3 1 0] [] [] false (wr_okN Γ s cr ct m (l0.getD j default).x hm4 (by omega) (by omega)) ?_
                      refine a_calld [] false (num_good Γ 0) ?_
                      iterate 6 refine a_opd ?_
                      simp only [hm]
                      iterate 5 refine a_opd ?_
                      refine a_callpd [.r 3 3 0] [] [] false (rwr_okN Γ s lf (by omega) (by omega) (by omega) m (l0.getD j default).x hm4) ?_
                      refine a_opd ?_
                      refine s_nil (r_true (by kernel_rfl) ?_)
                      refine q_next ?_
                      refine a_false ?_
                      refine k_skip ?_
                      refine q_block (q_meetF ((false, false, s, [(m, (l0.getD j default).x)], cr, ct + 1, max 0 (lf - 1))) (a_le ?_) ?_)
                      · refine le_of [(.r 3 1 0, .r 3 1 0), (.r 3 3 0, .r 3 3 0), (.r 16 11 0, .r 16 11 0), (.r 16 24 0, .r 16 24 0)] ?_ ?_ ?_ <;> simp [-List.map_set, -List.map_replicate, -List.reduceReplicate, -List.map_map, -List.map_drop, -List.map_take, num, bol, txt, w8, w16, w32, w64, lst, cls, rowO, boxO, List.take_of_length_le, acT, chL_app, chL]
                      · refine ⟨?_, ?_, ?_, ?_, ?_, ?_, ?_⟩ <;> (try simp only [List.length_append, List.length_cons, List.length_nil]) <;> first | omega | exact In4_nil | exact In4_snoc h4 hm4 | exact In4_snoc In4_nil hm4 | exact h4 | (intro _; rfl) | (intro _; exact True.intro) | (intro h; cases h)
            · skip
              refine a_op ?_
              refine a_op ?_
              refine s_nil (r_false ?_)
              refine q_next ?_
              refine a_false ?_
              refine k_seq ?_
              refine k_region rfl ?_
              refine a_op ?_
              refine a_op ?_
              refine s_nil (r_false ?_)
              refine q_next ?_
              refine a_false ?_
              refine k_seq ?_
              refine k_region rfl ?_
              refine a_op ?_
              refine a_op ?_
              refine s_nil (r_false ?_)
              refine q_next ?_
              refine a_false ?_
              refine k_region rfl ?_
              refine a_op ?_
              skip
              refine a_op ?_
              refine s_nil (r_false ?_)
              refine q_next ?_
              refine a_false ?_
              refine k_seq ?_
              refine k_region rfl ?_
              refine a_op ?_
              refine a_op ?_
              refine s_nil (r_false ?_)
              refine q_next ?_
              refine a_true ?_
              refine k_seq ?_
              refine k_region rfl ?_
              rcases (show ct + 1 = cr ∨ ¬ ct + 1 = cr by omega) with hla | hla
              · obtain rfl : lf = 1 := by omega
                refine a_op ?_
                refine a_callp [.r 3 1 0] [] [] false (sy_lastN Γ hE s cr ct (by omega) (by omega)) ?_
                refine a_call [] false (num_good Γ 13) ?_
                refine a_op ?_
                refine a_callp [.r 3 3 0] [] [] false (rsy_lastN Γ s ) ?_
                refine a_op ?_
                refine s_nil (r_false ?_)
                refine q_next ?_
                refine a_false ?_
                refine k_skip ?_
                refine q_block (q_meetF ((true, true, s, [], cr, ct + 1, 0)) (a_le ?_) ?_)
                · refine le_of [(.r 3 1 0, .r 3 1 0), (.r 3 3 0, .r 3 3 0)] ?_ ?_ ?_ <;> simp [-List.map_set, -List.map_replicate, -List.reduceReplicate, -List.map_map, -List.map_drop, -List.map_take, num, bol, txt, w8, w16, w32, w64, lst, cls, rowO, boxO, List.take_of_length_le, acT, chL_app, chL]
                · refine ⟨?_, ?_, ?_, ?_, ?_, ?_, ?_⟩ <;> (try simp only [List.length_append, List.length_cons, List.length_nil]) <;> first | omega | exact In4_nil | exact In4_snoc h4 hm4 | exact In4_snoc In4_nil hm4 | exact h4 | (intro _; rfl) | (intro _; exact True.intro) | (intro h; cases h)
              · skip
                refine a_op ?_
                refine a_callp [.r 3 1 0] [] [] false (sy_okN Γ s cr ct (by omega) (by omega)) ?_
                refine a_call [] false (num_good Γ 0) ?_
                refine a_op ?_
                refine a_callp [.r 3 3 0] [] [] false (rsy_okN Γ s lf (by omega) (by omega) (by omega)) ?_
                refine a_op ?_
                refine s_nil (r_false ?_)
                refine q_next ?_
                refine a_false ?_
                refine k_skip ?_
                refine q_block (q_meetF ((true, false, s, [], cr, ct + 1, max 0 (lf - 1))) (a_le ?_) ?_)
                · refine le_of [(.r 3 1 0, .r 3 1 0), (.r 3 3 0, .r 3 3 0)] ?_ ?_ ?_ <;> simp [-List.map_set, -List.map_replicate, -List.reduceReplicate, -List.map_map, -List.map_drop, -List.map_take, num, bol, txt, w8, w16, w32, w64, lst, cls, rowO, boxO, List.take_of_length_le, acT, chL_app, chL]
                · refine ⟨?_, ?_, ?_, ?_, ?_, ?_, ?_⟩ <;> (try simp only [List.length_append, List.length_cons, List.length_nil]) <;> first | omega | exact In4_nil | exact In4_snoc h4 hm4 | exact In4_snoc In4_nil hm4 | exact h4 | (intro _; rfl) | (intro _; exact True.intro) | (intro h; cases h)
            · skip
              refine a_op ?_
              refine a_op ?_
              refine s_nil (r_false ?_)
              refine q_next ?_
              refine a_false ?_
              refine k_seq ?_
              refine k_region rfl ?_
              refine a_op ?_
              refine a_op ?_
              refine s_nil (r_false ?_)
              refine q_next ?_
              refine a_false ?_
              refine k_seq ?_
              refine k_region rfl ?_
              refine a_op ?_
              refine a_op ?_
              refine s_nil (r_false ?_)
              refine q_next ?_
              refine a_false ?_
              refine k_region rfl ?_
              refine a_op ?_
              skip
              refine a_op ?_
              refine s_nil (r_false ?_)
              refine q_next ?_
              refine a_false ?_
              refine k_seq ?_
              refine k_region rfl ?_
              refine a_op ?_
              refine a_op ?_
              refine s_nil (r_false ?_)
              refine q_next ?_
              refine a_false ?_
              refine k_seq ?_
              refine k_region rfl ?_
              refine a_op ?_
              refine a_op ?_
              refine s_nil (r_false ?_)
              refine q_next ?_
              refine a_true ?_
              refine k_seq ?_
              refine k_region rfl ?_
              iterate 6 refine a_op ?_
              refine a_callp [.r 3 1 0] [] [] false (tearN Γ s cr ct false (l0.getD j default).i) ?_
              refine s_nil (r_false ?_)
              refine q_next ?_
              refine k_region rfl ?_
              iterate 6 refine a_op ?_
              refine a_callp [.r 3 3 0] [] [] false (rtearN Γ s lf false (l0.getD j default).i) ?_
              refine s_nil (r_false ?_)
              refine q_block (q_meetF ((true, false, s, [], (l0.getD j default).i, 0, max 0 (l0.getD j default).i)) (a_le ?_) ?_)
              · refine le_of [(.r 3 1 0, .r 3 1 0), (.r 3 3 0, .r 3 3 0)] ?_ ?_ ?_ <;> simp [-List.map_set, -List.map_replicate, -List.reduceReplicate, -List.map_map, -List.map_drop, -List.map_take, num, bol, txt, w8, w16, w32, w64, lst, cls, rowO, boxO, List.take_of_length_le, acT, chL_app, chL]
              · refine ⟨?_, ?_, ?_, ?_, ?_, ?_, ?_⟩ <;> (try simp only [List.length_append, List.length_cons, List.length_nil]) <;> first | omega | exact In4_nil | exact In4_snoc h4 hm4 | exact In4_snoc In4_nil hm4 | exact h4 | (intro _; rfl) | (intro _; exact True.intro) | (intro h; cases h)
            · skip
              refine a_op ?_
              refine a_op ?_
              refine s_nil (r_false ?_)
              refine q_next ?_
              refine a_false ?_
              refine k_seq ?_
              refine k_region rfl ?_
              refine a_op ?_
              refine a_op ?_
              refine s_nil (r_false ?_)
              refine q_next ?_
              refine a_false ?_
              refine k_seq ?_
              refine k_region rfl ?_
              refine a_op ?_
              refine a_op ?_
              refine s_nil (r_false ?_)
              refine q_next ?_
              refine a_false ?_
              refine k_region rfl ?_
              refine a_op ?_
              skip
              refine a_op ?_
              refine s_nil (r_false ?_)
              refine q_next ?_
              refine a_false ?_
              refine k_seq ?_
              refine k_region rfl ?_
              refine a_op ?_
              refine a_op ?_
              refine s_nil (r_false ?_)
              refine q_next ?_
              refine a_false ?_
              refine k_seq ?_
              refine k_region rfl ?_
              refine a_op ?_
              refine a_op ?_
              refine s_nil (r_false ?_)
              refine q_next ?_
              refine a_false ?_
              refine k_seq ?_
              refine k_region rfl ?_
              refine a_op ?_
              refine a_op ?_
              refine s_nil (r_false ?_)
              refine q_next ?_
              refine a_true ?_
              refine k_seq ?_
              refine k_region rfl ?_
              iterate 6 refine a_op ?_
              refine a_callp [.r 3 1 0] [] [] false (fallN Γ s cr ct false (l0.getD j default).c (l0.getD j default).ks hks) ?_
              refine s_nil (r_false ?_)
              refine q_next ?_
              refine k_region rfl ?_
              iterate 6 refine a_op ?_
              refine a_callp [.r 3 3 0] [] [] false (rfallN Γ s lf false (l0.getD j default).c (l0.getD j default).ks hks) ?_
              refine s_nil (r_false ?_)
              refine q_block (q_meetF ((true, false, s, [], (l0.getD j default).c, 0, max 0 (l0.getD j default).c)) (a_le ?_) ?_)
              · refine le_of [(.r 3 1 0, .r 3 1 0), (.r 3 3 0, .r 3 3 0)] ?_ ?_ ?_ <;> simp [-List.map_set, -List.map_replicate, -List.reduceReplicate, -List.map_map, -List.map_drop, -List.map_take, num, bol, txt, w8, w16, w32, w64, lst, cls, rowO, boxO, List.take_of_length_le, acT, chL_app, chL]
              · refine ⟨?_, ?_, ?_, ?_, ?_, ?_, ?_⟩ <;> (try simp only [List.length_append, List.length_cons, List.length_nil]) <;> first | omega | exact In4_nil | exact In4_snoc h4 hm4 | exact In4_snoc In4_nil hm4 | exact h4 | (intro _; rfl) | (intro _; exact True.intro) | (intro h; cases h)
            · skip
              refine a_op ?_
              refine a_op ?_
              refine s_nil (r_false ?_)
              refine q_next ?_
              refine a_false ?_
              refine k_seq ?_
              refine k_region rfl ?_
              refine a_op ?_
              refine a_op ?_
              refine s_nil (r_false ?_)
              refine q_next ?_
              refine a_false ?_
              refine k_seq ?_
              refine k_region rfl ?_
              refine a_op ?_
              refine a_op ?_
              refine s_nil (r_false ?_)
              refine q_next ?_
              refine a_false ?_
              refine k_region rfl ?_
              refine a_op ?_
              skip
              refine a_op ?_
              refine s_nil (r_false ?_)
              refine q_next ?_
              refine a_false ?_
              refine k_seq ?_
              refine k_region rfl ?_
              refine a_op ?_
              refine a_op ?_
              refine s_nil (r_false ?_)
              refine q_next ?_
              refine a_false ?_
              refine k_seq ?_
              refine k_region rfl ?_
              refine a_op ?_
              refine a_op ?_
              refine s_nil (r_false ?_)
              refine q_next ?_
              refine a_false ?_
              refine k_seq ?_
              refine k_region rfl ?_
              refine a_op ?_
              refine a_op ?_
              refine s_nil (r_false ?_)
              refine q_next ?_
              refine a_false ?_
              refine k_skip ?_
              refine q_block (q_meetF ((true, false, s, [], cr, ct, lf)) (a_le ?_) ?_)
              · refine le_of [(.r 3 1 0, .r 3 1 0), (.r 3 3 0, .r 3 3 0)] ?_ ?_ ?_ <;> simp [-List.map_set, -List.map_replicate, -List.reduceReplicate, -List.map_map, -List.map_drop, -List.map_take, num, bol, txt, w8, w16, w32, w64, lst, cls, rowO, boxO, List.take_of_length_le, acT, chL_app, chL]
              · refine ⟨?_, ?_, ?_, ?_, ?_, ?_, ?_⟩ <;> (try simp only [List.length_append, List.length_cons, List.length_nil]) <;> first | omega | exact In4_nil | exact In4_snoc h4 hm4 | exact In4_snoc In4_nil hm4 | exact h4 | (intro _; rfl) | (intro _; exact True.intro) | (intro h; cases h)
            · skip
              refine a_op ?_
              refine a_op ?_
              refine s_nil (r_false ?_)
              refine q_next ?_
              refine a_if (fun hc4 => ?_) (fun hc4 => ?_)
              · (try simp only [Bool.and_eq_true, Bool.or_eq_true, Bool.or_eq_false_iff, Bool.not_eq_true', Bool.not_eq_false', dec_t, dec_f, Bool.and_eq_false_imp, beq_iff_eq, beq_eq_false_iff_ne, ne_eq] at hc4)
                simp only [bdec_pos hc4]
                refine k_skip ?_
                refine q_next ?_
                refine a_true ?_
                refine k_seq ?_
                refine g_startM (.r 3 1 0) [.r 16 11 0, .r 16 24 0] [] [.r 3 1 0, .r 3 3 0] rfl ?_
                skip
                refine g_op ?_
                refine g_op ?_
                refine g_op ?_
                refine g_op ?_
                refine g_op ?_
                refine g_op ?_
                refine g_op ?_
                refine g_op ?_
                refine g_op ?_
                refine g_op ?_
                refine g_op ?_
                refine g_callp [.r 3 1 0, .r 16 11 0] [] [.r 16 11 0] false (wr_dnR Γ hE s l hl h4 cr ct (l0.getD j default).i (l0.getD j default).x) ?_
                refine g_callp [] [] [] false (num_good Γ 13) ?_
                refine g_op ?_
                refine g_op ?_
                refine g_op ?_
                refine g_op ?_
                refine g_op ?_
                refine g_op ?_
                refine g_op ?_
                refine g_op ?_
                refine g_op ?_
                refine g_op ?_
                refine g_op ?_
                refine g_callp [.r 3 3 0, .r 16 24 0] [] [.r 16 24 0] false (rwr_dnR Γ s l lf (l0.getD j default).i (l0.getD j default).x) ?_
                refine g_op ?_
                refine g_nil ⟨m_ok 99 (by kernel_rfl) (by kernel_rfl) (by kernel_rfl) (h5 := by simp [-List.map_map, D.has, D.hasL, push_cast] <;> and_intros <;> (rintro a b (⟨ha, hb⟩ | ⟨ha, hb⟩) <;> intros <;> first | contradiction | (rename_i hob; rw [hb] at hob; cases hob; exact hasL_map_t _ _))), ?_⟩
                refine q_next ?_
                refine a_false ?_
                refine k_skip ?_
                refine q_block (q_meetF ((false, true, s, l, cr, ct, lf)) (a_le ?_) ?_)
                · refine le_of [(.r 3 1 0, .r 3 1 0), (.r 3 3 0, .r 3 3 0), (.r 16 11 0, .r 16 11 0), (.r 16 24 0, .r 16 24 0)] ?_ ?_ ?_ <;> simp [-List.map_set, -List.map_replicate, -List.reduceReplicate, -List.map_map, -List.map_drop, -List.map_take, num, bol, txt, w8, w16, w32, w64, lst, cls, rowO, boxO, List.take_of_length_le, acT, chL_app, chL]
                · refine ⟨?_, ?_, ?_, ?_, ?_, ?_, ?_⟩ <;> (try simp only [List.length_append, List.length_cons, List.length_nil]) <;> first | omega | exact In4_nil | exact In4_snoc h4 hm4 | exact In4_snoc In4_nil hm4 | exact h4 | (intro _; rfl) | (intro _; exact True.intro) | (intro h; cases h)
              · (try simp only [Bool.and_eq_true, Bool.or_eq_true, Bool.or_eq_false_iff, Bool.not_eq_true', Bool.not_eq_false', dec_t, dec_f, Bool.and_eq_false_imp, beq_iff_eq, beq_eq_false_iff_ne, ne_eq] at hc4)
                refine k_seq ?_
                refine k_region rfl ?_
                refine a_op ?_
                refine a_op ?_
                refine s_nil (r_false ?_)
                refine q_next ?_
                refine a_if (fun hc5 => ?_) (fun hc5 => ?_)
                · (try simp only [Bool.and_eq_true, Bool.or_eq_true, Bool.or_eq_false_iff, Bool.not_eq_true', Bool.not_eq_false', dec_t, dec_f, Bool.and_eq_false_imp, beq_iff_eq, beq_eq_false_iff_ne, ne_eq] at hc5)
                  simp only [bdec_pos hc5]
                  refine k_skip ?_
                  refine q_next ?_
                  refine a_true ?_
                  refine k_seq ?_
                  refine g_startM (.r 3 1 0) [.r 16 11 0, .r 16 24 0] [] [.r 3 1 0, .r 3 3 0] rfl ?_
                  skip
                  refine g_op ?_
                  refine g_op ?_
                  refine g_op ?_
                  refine g_op ?_
                  refine g_op ?_
                  refine g_op ?_
                  refine g_op ?_
                  refine g_op ?_
                  refine g_op ?_
                  refine g_op ?_
                  refine g_op ?_
                  refine g_callp [.r 3 1 0, .r 16 11 0] [] [.r 16 11 0] false (wr_dnR Γ hE s l hl h4 cr ct (l0.getD j default).i (l0.getD j default).x) ?_
                  refine g_callp [] [] [] false (num_good Γ 13) ?_
                  refine g_op ?_
                  refine g_op ?_
                  refine g_op ?_
                  refine g_op ?_
                  refine g_op ?_
                  refine g_op ?_
                  refine g_op ?_
                  refine g_op ?_
                  refine g_op ?_
                  refine g_op ?_
                  refine g_op ?_
                  refine g_callp [.r 3 3 0, .r 16 24 0] [] [.r 16 24 0] false (rwr_dnR Γ s l lf (l0.getD j default).i (l0.getD j default).x) ?_
                  refine g_op ?_
                  refine g_nil ⟨m_ok 99 (by kernel_rfl) (by kernel_rfl) (by kernel_rfl) (h5 := by simp [-List.map_map, D.has, D.hasL, push_cast] <;> and_intros <;> (rintro a b (⟨ha, hb⟩ | ⟨ha, hb⟩) <;> intros <;> first | contradiction | (rename_i hob; rw [hb] at hob; cases hob; exact hasL_map_t _ _))), ?_⟩
                  refine q_next ?_
                  refine a_false ?_
                  refine k_skip ?_
                  refine q_block (q_meetF ((false, true, s, l, cr, ct, lf)) (a_le ?_) ?_)
                  · refine le_of [(.r 3 1 0, .r 3 1 0), (.r 3 3 0, .r 3 3 0), (.r 16 11 0, .r 16 11 0), (.r 16 24 0, .r 16 24 0)] ?_ ?_ ?_ <;> simp [-List.map_set, -List.map_replicate, -List.reduceReplicate, -List.map_map, -List.map_drop, -List.map_take, num, bol, txt, w8, w16, w32, w64, lst, cls, rowO, boxO, List.take_of_length_le, acT, chL_app, chL]
                  · refine ⟨?_, ?_, ?_, ?_, ?_, ?_, ?_⟩ <;> (try simp only [List.length_append, List.length_cons, List.length_nil]) <;> first | omega | exact In4_nil | exact In4_snoc h4 hm4 | exact In4_snoc In4_nil hm4 | exact h4 | (intro _; rfl) | (intro _; exact True.intro) | (intro h; cases h)
                · (try simp only [Bool.and_eq_true, Bool.or_eq_true, Bool.or_eq_false_iff, Bool.not_eq_true', Bool.not_eq_false', dec_t, dec_f, Bool.and_eq_false_imp, beq_iff_eq, beq_eq_false_iff_ne, ne_eq] at hc5)
                  refine k_seq ?_
                  refine k_region rfl ?_
                  refine a_op ?_
                  refine a_op ?_
                  refine s_nil (r_false ?_)
                  refine q_next ?_
                  refine a_if (fun hc6 => ?_) (fun hc6 => ?_)
                  · (try simp only [Bool.and_eq_true, Bool.or_eq_true, Bool.or_eq_false_iff, Bool.not_eq_true', Bool.not_eq_false', dec_t, dec_f, Bool.and_eq_false_imp, beq_iff_eq, beq_eq_false_iff_ne, ne_eq] at hc6)
                    simp only [bdec_pos hc6]
                    refine k_skip ?_
                    refine q_next ?_
                    refine a_true ?_
                    refine k_seq ?_
                    refine g_startM (.r 3 1 0) [.r 16 11 0, .r 16 24 0] [] [.r 3 1 0, .r 3 3 0] rfl ?_
                    skip
                    refine g_op ?_
                    refine g_op ?_
                    refine g_op ?_
                    refine g_op ?_
                    refine g_op ?_
                    refine g_op ?_
                    refine g_op ?_
                    refine g_op ?_
                    refine g_op ?_
                    refine g_op ?_
                    refine g_op ?_
                    refine g_callp [.r 3 1 0, .r 16 11 0] [] [.r 16 11 0] false (wr_dnR Γ hE s l hl h4 cr ct (l0.getD j default).i (l0.getD j default).x) ?_
                    refine g_callp [] [] [] false (num_good Γ 13) ?_
                    refine g_op ?_
                    refine g_op ?_
                    refine g_op ?_
                    refine g_op ?_
                    refine g_op ?_
                    refine g_op ?_
                    refine g_op ?_
                    refine g_op ?_
                    refine g_op ?_
                    refine g_op ?_
                    refine g_op ?_
                    refine g_callp [.r 3 3 0, .r 16 24 0] [] [.r 16 24 0] false (rwr_dnR Γ s l lf (l0.getD j default).i (l0.getD j default).x) ?_
                    refine g_op ?_
                    refine g_nil ⟨m_ok 99 (by kernel_rfl) (by kernel_rfl) (by kernel_rfl) (h5 := by simp [-List.map_map, D.has, D.hasL, push_cast] <;> and_intros <;> (rintro a b (⟨ha, hb⟩ | ⟨ha, hb⟩) <;> intros <;> first | contradiction | (rename_i hob; rw [hb] at hob; cases hob; exact hasL_map_t _ _))), ?_⟩
                    refine q_next ?_
                    refine a_false ?_
                    refine k_skip ?_
                    refine q_block (q_meetF ((false, true, s, l, cr, ct, lf)) (a_le ?_) ?_)
                    · refine le_of [(.r 3 1 0, .r 3 1 0), (.r 3 3 0, .r 3 3 0), (.r 16 11 0, .r 16 11 0), (.r 16 24 0, .r 16 24 0)] ?_ ?_ ?_ <;> simp [-List.map_set, -List.map_replicate, -List.reduceReplicate, -List.map_map, -List.map_drop, -List.map_take, num, bol, txt, w8, w16, w32, w64, lst, cls, rowO, boxO, List.take_of_length_le, acT, chL_app, chL]
                    · refine ⟨?_, ?_, ?_, ?_, ?_, ?_, ?_⟩ <;> (try simp only [List.length_append, List.length_cons, List.length_nil]) <;> first | omega | exact In4_nil | exact In4_snoc h4 hm4 | exact In4_snoc In4_nil hm4 | exact h4 | (intro _; rfl) | (intro _; exact True.intro) | (intro h; cases h)
                  · (try simp only [Bool.and_eq_true, Bool.or_eq_true, Bool.or_eq_false_iff, Bool.not_eq_true', Bool.not_eq_false', dec_t, dec_f, Bool.and_eq_false_imp, beq_iff_eq, beq_eq_false_iff_ne, ne_eq] at hc6)
                    refine k_region rfl ?_
                    refine a_op ?_
                    simp only [bdec_pos (show (l0.getD j default).k = 3 by omega)]
                    refine a_op ?_
                    refine s_nil (r_false ?_)
                    refine q_next ?_
                    refine a_true ?_
                    refine k_seq ?_
                    refine g_startM (.r 3 1 0) [.r 16 11 0, .r 16 24 0] [] [.r 3 1 0, .r 3 3 0] rfl ?_
                    skip
                    refine g_op ?_
                    refine g_op ?_
                    refine g_op ?_
                    refine g_op ?_
                    refine g_op ?_
                    refine g_op ?_
                    refine g_op ?_
                    refine g_op ?_
                    refine g_op ?_
                    refine g_op ?_
                    refine g_op ?_
                    refine g_callp [.r 3 1 0, .r 16 11 0] [] [.r 16 11 0] false (wr_dnR Γ hE s l hl h4 cr ct (l0.getD j default).i (l0.getD j default).x) ?_
                    refine g_callp [] [] [] false (num_good Γ 13) ?_
                    refine g_op ?_
                    refine g_op ?_
                    refine g_op ?_
                    refine g_op ?_
                    refine g_op ?_
                    refine g_op ?_
                    refine g_op ?_
                    refine g_op ?_
                    refine g_op ?_
                    refine g_op ?_
                    refine g_op ?_
                    refine g_callp [.r 3 3 0, .r 16 24 0] [] [.r 16 24 0] false (rwr_dnR Γ s l lf (l0.getD j default).i (l0.getD j default).x) ?_
                    refine g_op ?_
                    refine g_nil ⟨m_ok 99 (by kernel_rfl) (by kernel_rfl) (by kernel_rfl) (h5 := by simp [-List.map_map, D.has, D.hasL, push_cast] <;> and_intros <;> (rintro a b (⟨ha, hb⟩ | ⟨ha, hb⟩) <;> intros <;> first | contradiction | (rename_i hob; rw [hb] at hob; cases hob; exact hasL_map_t _ _))), ?_⟩
                    refine q_next ?_
                    refine a_false ?_
                    refine k_skip ?_
                    refine q_block (q_meetF ((false, true, s, l, cr, ct, lf)) (a_le ?_) ?_)
                    · refine le_of [(.r 3 1 0, .r 3 1 0), (.r 3 3 0, .r 3 3 0), (.r 16 11 0, .r 16 11 0), (.r 16 24 0, .r 16 24 0)] ?_ ?_ ?_ <;> simp [-List.map_set, -List.map_replicate, -List.reduceReplicate, -List.map_map, -List.map_drop, -List.map_take, num, bol, txt, w8, w16, w32, w64, lst, cls, rowO, boxO, List.take_of_length_le, acT, chL_app, chL]
                    · refine ⟨?_, ?_, ?_, ?_, ?_, ?_, ?_⟩ <;> (try simp only [List.length_append, List.length_cons, List.length_nil]) <;> first | omega | exact In4_nil | exact In4_snoc h4 hm4 | exact In4_snoc In4_nil hm4 | exact h4 | (intro _; rfl) | (intro _; exact True.intro) | (intro h; cases h)
            · skip
              refine a_op ?_
              refine a_op ?_
              refine s_nil (r_false ?_)
              refine q_next ?_
              refine a_false ?_
              refine k_seq ?_
              refine k_region rfl ?_
              refine a_op ?_
              refine a_op ?_
              refine s_nil (r_false ?_)
              refine q_next ?_
              refine a_false ?_
              refine k_seq ?_
              refine k_region rfl ?_
              refine a_op ?_
              refine a_op ?_
              refine s_nil (r_false ?_)
              refine q_next ?_
              refine a_false ?_
              refine k_region rfl ?_
              refine a_op ?_
              skip
              refine a_op ?_
              refine s_nil (r_false ?_)
              refine q_next ?_
              refine a_false ?_
              refine k_seq ?_
              refine k_region rfl ?_
              refine a_op ?_
              refine a_op ?_
              refine s_nil (r_false ?_)
              refine q_next ?_
              refine a_true ?_
              refine k_seq ?_
              refine k_region rfl ?_
              skip
              refine a_op ?_
              refine a_callp [.r 3 1 0, .r 16 11 0] [] [.r 16 11 0] false (sy_dnR Γ hE s l hl h4 cr ct) ?_
              refine a_call [] false (num_good Γ 13) ?_
              refine a_op ?_
              refine a_callp [.r 3 3 0, .r 16 24 0] [] [.r 16 24 0] false (rsy_dnR Γ s l hl h4 lf) ?_
              refine a_op ?_
              refine s_nil (r_false ?_)
              refine q_next ?_
              refine a_false ?_
              refine k_skip ?_
              refine q_block (q_meetF ((false, true, s, l, cr, ct, lf)) (a_le ?_) ?_)
              · refine le_of [(.r 3 1 0, .r 3 1 0), (.r 3 3 0, .r 3 3 0), (.r 16 11 0, .r 16 11 0), (.r 16 24 0, .r 16 24 0)] ?_ ?_ ?_ <;> simp [-List.map_set, -List.map_replicate, -List.reduceReplicate, -List.map_map, -List.map_drop, -List.map_take, num, bol, txt, w8, w16, w32, w64, lst, cls, rowO, boxO, List.take_of_length_le, acT, chL_app, chL]
              · refine ⟨?_, ?_, ?_, ?_, ?_, ?_, ?_⟩ <;> (try simp only [List.length_append, List.length_cons, List.length_nil]) <;> first | omega | exact In4_nil | exact In4_snoc h4 hm4 | exact In4_snoc In4_nil hm4 | exact h4 | (intro _; rfl) | (intro _; exact True.intro) | (intro h; cases h)
            · skip
              refine a_op ?_
              refine a_op ?_
              refine s_nil (r_false ?_)
              refine q_next ?_
              refine a_false ?_
              refine k_seq ?_
              refine k_region rfl ?_
              refine a_op ?_
              refine a_op ?_
              refine s_nil (r_false ?_)
              refine q_next ?_
              refine a_false ?_
              refine k_seq ?_
              refine k_region rfl ?_
              refine a_op ?_
              refine a_op ?_
              refine s_nil (r_false ?_)
              refine q_next ?_
              refine a_false ?_
              refine k_region rfl ?_
              refine a_op ?_
              skip
              refine a_op ?_
              refine s_nil (r_false ?_)
              refine q_next ?_
              refine a_false ?_
              refine k_seq ?_
              refine k_region rfl ?_
              refine a_op ?_
              refine a_op ?_
              refine s_nil (r_false ?_)
              refine q_next ?_
              refine a_false ?_
              refine k_seq ?_
              refine k_region rfl ?_
              refine a_op ?_
              refine a_op ?_
              refine s_nil (r_false ?_)
              refine q_next ?_
              refine a_true ?_
              refine k_seq ?_
              refine k_region rfl ?_
              iterate 6 refine a_op ?_
              refine a_callp [.r 3 1 0, .r 16 11 0] [] [.r 16 11 0] false (tearR Γ s l hl h4 cr ct true (l0.getD j default).i) ?_
              refine s_nil (r_false ?_)
              refine q_next ?_
              refine k_region rfl ?_
              iterate 6 refine a_op ?_
              refine a_callp [.r 3 3 0, .r 16 24 0] [] [.r 16 24 0] false (rtearR Γ s l hl h4 lf true (l0.getD j default).i) ?_
              refine s_nil (r_false ?_)
              refine q_block (q_meetF ((false, true, s, l, (l0.getD j default).i, 0, max 0 (l0.getD j default).i)) (a_le ?_) ?_)
              · refine le_of [(.r 3 1 0, .r 3 1 0), (.r 3 3 0, .r 3 3 0), (.r 16 11 0, .r 16 11 0), (.r 16 24 0, .r 16 24 0)] ?_ ?_ ?_ <;> simp [-List.map_set, -List.map_replicate, -List.reduceReplicate, -List.map_map, -List.map_drop, -List.map_take, num, bol, txt, w8, w16, w32, w64, lst, cls, rowO, boxO, List.take_of_length_le, acT, chL_app, chL]
              · refine ⟨?_, ?_, ?_, ?_, ?_, ?_, ?_⟩ <;> (try simp only [List.length_append, List.length_cons, List.length_nil]) <;> first | omega | exact In4_nil | exact In4_snoc h4 hm4 | exact In4_snoc In4_nil hm4 | exact h4 | (intro _; rfl) | (intro _; exact True.intro) | (intro h; cases h)
            · skip
              refine a_op ?_
              refine a_op ?_
              refine s_nil (r_false ?_)
              refine q_next ?_
              refine a_false ?_
              refine k_seq ?_
              refine k_region rfl ?_
              refine a_op ?_
              refine a_op ?_
              refine s_nil (r_false ?_)
              refine q_next ?_
              refine a_false ?_
              refine k_seq ?_
              refine k_region rfl ?_
              refine a_op ?_
              refine a_op ?_
              refine s_nil (r_false ?_)
              refine q_next ?_
              refine a_false ?_
              refine k_region rfl ?_
              refine a_op ?_
              skip
              refine a_op ?_
              refine s_nil (r_false ?_)
              refine q_next ?_
              refine a_false ?_
              refine k_seq ?_
              refine k_region rfl ?_
              refine a_op ?_
              refine a_op ?_
              refine s_nil (r_false ?_)
              refine q_next ?_
              refine a_false ?_
              refine k_seq ?_
              refine k_region rfl ?_
              refine a_op ?_
              refine a_op ?_
              refine s_nil (r_false ?_)
              refine q_next ?_
              refine a_false ?_
              refine k_seq ?_
              refine k_region rfl ?_
              refine a_op ?_
              refine a_op ?_
              refine s_nil (r_false ?_)
              refine q_next ?_
              refine a_true ?_
              refine k_seq ?_
              refine k_region rfl ?_
              iterate 6 refine a_op ?_
              refine a_callp [.r 3 1 0, .r 16 11 0] [] [.r 16 11 0] false (fallR Γ s l hl h4 cr ct true (l0.getD j default).c (l0.getD j default).ks hks) ?_
              refine s_nil (r_false ?_)
              refine q_next ?_
              refine k_region rfl ?_
              iterate 6 refine a_op ?_
              refine a_callp [.r 3 3 0, .r 16 24 0] [] [.r 16 24 0] false (rfallR Γ s l hl h4 lf true (l0.getD j default).c (l0.getD j default).ks hks) ?_
              refine s_nil (r_false ?_)
              refine q_block (q_meetF ((true, false, (fallF s l (l0.getD j default).ks l.length), [], (l0.getD j default).c, 0, max 0 (l0.getD j default).c)) (a_le ?_) ?_)
              · refine le_of [(.r 3 1 0, .r 3 1 0), (.r 3 3 0, .r 3 3 0)] ?_ ?_ ?_ <;> simp [-List.map_set, -List.map_replicate, -List.reduceReplicate, -List.map_map, -List.map_drop, -List.map_take, num, bol, txt, w8, w16, w32, w64, lst, cls, rowO, boxO, List.take_of_length_le, acT, chL_app, chL]
              · refine ⟨?_, ?_, ?_, ?_, ?_, ?_, ?_⟩ <;> (try simp only [List.length_append, List.length_cons, List.length_nil]) <;> first | omega | exact In4_nil | exact In4_snoc h4 hm4 | exact In4_snoc In4_nil hm4 | exact h4 | (intro _; rfl) | (intro _; exact True.intro) | (intro h; cases h)
            · skip
              refine a_op ?_
              refine a_op ?_
              refine s_nil (r_false ?_)
              refine q_next ?_
              refine a_false ?_
              refine k_seq ?_
              refine k_region rfl ?_
              refine a_op ?_
              refine a_op ?_
              refine s_nil (r_false ?_)
              refine q_next ?_
              refine a_false ?_
              refine k_seq ?_
              refine k_region rfl ?_
              refine a_op ?_
              refine a_op ?_
              refine s_nil (r_false ?_)
              refine q_next ?_
              refine a_false ?_
              refine k_region rfl ?_
              refine a_op ?_
              skip
              refine a_op ?_
              refine s_nil (r_false ?_)
              refine q_next ?_
              refine a_false ?_
              refine k_seq ?_
              refine k_region rfl ?_
              refine a_op ?_
              refine a_op ?_
              refine s_nil (r_false ?_)
              refine q_next ?_
              refine a_false ?_
              refine k_seq ?_
              refine k_region rfl ?_
              refine a_op ?_
              refine a_op ?_
              refine s_nil (r_false ?_)
              refine q_next ?_
              refine a_false ?_
              refine k_seq ?_
              refine k_region rfl ?_
              refine a_op ?_
              refine a_op ?_
              refine s_nil (r_false ?_)
              refine q_next ?_
              refine a_false ?_
              refine k_skip ?_
              refine q_block (q_meetF ((false, true, s, l, cr, ct, lf)) (a_le ?_) ?_)
              · refine le_of [(.r 3 1 0, .r 3 1 0), (.r 3 3 0, .r 3 3 0), (.r 16 11 0, .r 16 11 0), (.r 16 24 0, .r 16 24 0)] ?_ ?_ ?_ <;> simp [-List.map_set, -List.map_replicate, -List.reduceReplicate, -List.map_map, -List.map_drop, -List.map_take, num, bol, txt, w8, w16, w32, w64, lst, cls, rowO, boxO, List.take_of_length_le, acT, chL_app, chL]
              · refine ⟨?_, ?_, ?_, ?_, ?_, ?_, ?_⟩ <;> (try simp only [List.length_append, List.length_cons, List.length_nil]) <;> first | omega | exact In4_nil | exact In4_snoc h4 hm4 | exact In4_snoc In4_nil hm4 | exact h4 | (intro _; rfl) | (intro _; exact True.intro) | (intro h; cases h)
            · skip
              refine a_op ?_
              refine a_op ?_
              refine s_nil (r_false ?_)
              refine q_next ?_
              refine a_if (fun hc4 => ?_) (fun hc4 => ?_)
              · (try simp only [Bool.and_eq_true, Bool.or_eq_true, Bool.or_eq_false_iff, Bool.not_eq_true', Bool.not_eq_false', dec_t, dec_f, Bool.and_eq_false_imp, beq_iff_eq, beq_eq_false_iff_ne, ne_eq] at hc4)
                simp only [bdec_pos hc4]
                refine k_skip ?_
                refine q_next ?_
                refine a_true ?_
                refine k_seq ?_
                rcases (show ((l0.getD j default).i < 0 ∨ 4 ≤ (l0.getD j default).i) ∨ ((0 ≤ (l0.getD j default).i ∧ (l0.getD j default).i < 4) ∧ ct + 1 = cr) ∨ ((0 ≤ (l0.getD j default).i ∧ (l0.getD j default).i < 4) ∧ ¬ ct + 1 = cr) by omega) with hix | ⟨hix, hla⟩ | ⟨hix, hla⟩
                · skip
                  refine g_startM (.r 3 1 0) [.r 16 11 0, .r 16 24 0] [] [.r 3 1 0, .r 3 3 0] rfl ?_
                  refine g_op ?_
                  refine g_op ?_
                  refine g_op ?_
                  refine g_op ?_
                  refine g_op ?_
                  refine g_op ?_
                  refine g_op ?_
                  refine g_op ?_
                  refine g_op ?_
                  refine g_op ?_
                  refine g_op ?_
                  refine g_callp [.r 3 1 0, .r 16 11 0] [] [.r 16 11 0] false (wr_argR Γ hE s l hl h4 cr ct (l0.getD j default).i (l0.getD j default).x hix) ?_
                  refine g_callp [] [] [] false (num_good Γ 1) ?_
                  refine g_op ?_
                  refine g_op ?_
                  refine g_op ?_
                  refine g_op ?_
                  refine g_op ?_
                  refine g_op ?_
                  refine g_op ?_
                  refine g_op ?_
                  refine g_op ?_
                  refine g_op ?_
                  refine g_op ?_
                  refine g_callp [.r 3 3 0, .r 16 24 0] [] [.r 16 24 0] false (rwr_argR Γ s l lf (l0.getD j default).i (l0.getD j default).x hix) ?_
                  refine g_op ?_
                  refine g_nil ⟨m_ok 99 (by kernel_rfl) (by kernel_rfl) (by kernel_rfl) (h5 := by simp [-List.map_map, D.has, D.hasL, push_cast] <;> and_intros <;> (rintro a b (⟨ha, hb⟩ | ⟨ha, hb⟩) <;> intros <;> first | contradiction | (rename_i hob; rw [hb] at hob; cases hob; exact hasL_map_t _ _))), ?_⟩
                  refine q_next ?_
                  refine a_false ?_
                  refine k_skip ?_
                  refine q_block (q_meetF ((false, false, s, l, cr, ct, lf)) (a_le ?_) ?_)
                  · refine le_of [(.r 3 1 0, .r 3 1 0), (.r 3 3 0, .r 3 3 0), (.r 16 11 0, .r 16 11 0), (.r 16 24 0, .r 16 24 0)] ?_ ?_ ?_ <;> simp [-List.map_set, -List.map_replicate, -List.reduceReplicate, -List.map_map, -List.map_drop, -List.map_take, num, bol, txt, w8, w16, w32, w64, lst, cls, rowO, boxO, List.take_of_length_le, acT, chL_app, chL]
                  · refine ⟨?_, ?_, ?_, ?_, ?_, ?_, ?_⟩ <;> (try simp only [List.length_append, List.length_cons, List.length_nil]) <;> first | omega | exact In4_nil | exact In4_snoc h4 hm4 | exact In4_snoc In4_nil hm4 | exact h4 | (intro _; rfl) | (intro _; exact True.intro) | (intro h; cases h)
                · obtain rfl : lf = 1 := by omega
                  refine g_startM (.r 3 1 0) [.r 16 11 0, .r 16 24 0] [] [.r 3 1 0, .r 3 3 0] rfl ?_
                  refine g_op ?_
                  refine g_op ?_
                  refine g_op ?_
                  refine g_op ?_
                  refine g_op ?_
                  refine g_op ?_
                  refine g_op ?_
                  refine g_op ?_
                  refine g_op ?_
                  refine g_op ?_
                  refine g_op ?_
                  refine g_callp [.r 3 1 0, .r 16 11 0] [] [.r 16 11 0] false (wr_lastR Γ hE s l hl h4 cr ct (l0.getD j default).i (l0.getD j default).x (by omega) (by omega) (by omega) (by omega)) ?_
                  refine g_callp [] [] [] false (num_good Γ 13) ?_
                  refine g_op ?_
                  refine g_op ?_
                  refine g_op ?_
                  refine g_op ?_
                  refine g_op ?_
                  refine g_op ?_
                  refine g_op ?_
                  refine g_op ?_
                  refine g_op ?_
                  refine g_op ?_
                  refine g_op ?_
                  refine g_callp [.r 3 3 0, .r 16 24 0] [] [.r 16 24 0] false (rwr_lastR Γ s l (l0.getD j default).i (l0.getD j default).x (by omega) (by omega)) ?_
                  refine g_op ?_
                  refine g_nil ⟨m_ok 99 (by kernel_rfl) (by kernel_rfl) (by kernel_rfl) (h5 := by simp [-List.map_map, D.has, D.hasL, push_cast] <;> and_intros <;> (rintro a b (⟨ha, hb⟩ | ⟨ha, hb⟩) <;> intros <;> first | contradiction | (rename_i hob; rw [hb] at hob; cases hob; exact hasL_map_t _ _))), ?_⟩
                  refine q_next ?_
                  refine a_false ?_
                  refine k_skip ?_
                  refine q_block (q_meetF ((false, true, s, l, cr, ct + 1, 0)) (a_le ?_) ?_)
                  · refine le_of [(.r 3 1 0, .r 3 1 0), (.r 3 3 0, .r 3 3 0), (.r 16 11 0, .r 16 11 0), (.r 16 24 0, .r 16 24 0)] ?_ ?_ ?_ <;> simp [-List.map_set, -List.map_replicate, -List.reduceReplicate, -List.map_map, -List.map_drop, -List.map_take, num, bol, txt, w8, w16, w32, w64, lst, cls, rowO, boxO, List.take_of_length_le, acT, chL_app, chL]
                  · refine ⟨?_, ?_, ?_, ?_, ?_, ?_, ?_⟩ <;> (try simp only [List.length_append, List.length_cons, List.length_nil]) <;> first | omega | exact In4_nil | exact In4_snoc h4 hm4 | exact In4_snoc In4_nil hm4 | exact h4 | (intro _; rfl) | (intro _; exact True.intro) | (intro h; cases h)
                · obtain ⟨m, hm⟩ : ∃ m : Nat, (l0.getD j default).i = (m : Int) := ⟨(l0.getD j default).i.toNat, by omega⟩
                  have hm4 : m < 4 := by omega
                  refine g_startM (.r 3 1 0) [.r 16 11 0, .r 16 24 0] [] [.r 3 1 0, .r 3 3 0] rfl ?_
                  refine g_op ?_
                  refine g_op ?_
                  refine g_op ?_
                  refine g_op ?_
                  refine g_op ?_
                  refine g_op ?_
                  simp only [hm]
                  refine g_op ?_
                  refine g_op ?_
                  refine g_op ?_
                  refine g_op ?_
                  refine g_op ?_
                  refine g_callp [.r 3 1 0, .r 16 11 0] [] [.r 16 11 0] false (wr_okR Γ s l hl h4 cr ct m (l0.getD j default).x hm4 (by omega) (by omega)) ?_
                  refine g_callp [] [] [] false (num_good Γ 0) ?_
                  refine g_op ?_
                  refine g_op ?_
                  refine g_op ?_
                  refine g_op ?_
                  refine g_op ?_
                  refine g_op ?_
                  simp only [hm]
                  refine g_op ?_
                  refine g_op ?_
                  refine g_op ?_
                  refine g_op ?_
                  refine g_op ?_
                  refine g_callp [.r 3 3 0, .r 16 24 0] [] [.r 16 24 0] false (rwr_okR Γ s l hl lf (by omega) (by omega) (by omega) m (l0.getD j default).x hm4) ?_
                  refine g_op ?_
                  refine g_nil ⟨m_ok 99 (by kernel_rfl) (by kernel_rfl) (by kernel_rfl) (h5 := by simp [-List.map_map, D.has, D.hasL, push_cast] <;> and_intros <;> (rintro a b (⟨ha, hb⟩ | ⟨ha, hb⟩) <;> intros <;> first | contradiction | (rename_i hob; rw [hb] at hob; cases hob; exact hasL_map_t _ _))), ?_⟩
                  refine q_next ?_
                  refine a_false ?_
                  refine k_skip ?_
                  refine q_block (q_meetF ((false, false, s, l ++ [(m, (l0.getD j default).x)], cr, ct + 1, max 0 (lf - 1))) (a_le ?_) ?_)
                  · refine le_of [(.r 3 1 0, .r 3 1 0), (.r 3 3 0, .r 3 3 0), (.r 16 11 0, .r 16 11 0), (.r 16 24 0, .r 16 24 0)] ?_ ?_ ?_ <;> simp [-List.map_set, -List.map_replicate, -List.reduceReplicate, -List.map_map, -List.map_drop, -List.map_take, num, bol, txt, w8, w16, w32, w64, lst, cls, rowO, boxO, List.take_of_length_le, acT, chL_app, chL]
                  · refine ⟨?_, ?_, ?_, ?_, ?_, ?_, ?_⟩ <;> (try simp only [List.length_append, List.length_cons, List.length_nil]) <;> first | omega | exact In4_nil | exact In4_snoc h4 hm4 | exact In4_snoc In4_nil hm4 | exact h4 | (intro _; rfl) | (intro _; exact True.intro) | (intro h; cases h)
              · (try simp only [Bool.and_eq_true, Bool.or_eq_true, Bool.or_eq_false_iff, Bool.not_eq_true', Bool.not_eq_false', dec_t, dec_f, Bool.and_eq_false_imp, beq_iff_eq, beq_eq_false_iff_ne, ne_eq] at hc4)
                refine k_seq ?_
                refine k_region rfl ?_
                refine a_op ?_
                refine a_op ?_
                refine s_nil (r_false ?_)
                refine q_next ?_
                refine a_if (fun hc5 => ?_) (fun hc5 => ?_)
                · (try simp only [Bool.and_eq_true, Bool.or_eq_true, Bool.or_eq_false_iff, Bool.not_eq_true', Bool.not_eq_false', dec_t, dec_f, Bool.and_eq_false_imp, beq_iff_eq, beq_eq_false_iff_ne, ne_eq] at hc5)
                  simp only [bdec_pos hc5]
                  refine k_skip ?_
                  refine q_next ?_
                  refine a_true ?_
                  refine k_seq ?_
                  rcases (show ((l0.getD j default).i < 0 ∨ 4 ≤ (l0.getD j default).i) ∨ ((0 ≤ (l0.getD j default).i ∧ (l0.getD j default).i < 4) ∧ ct + 1 = cr) ∨ ((0 ≤ (l0.getD j default).i ∧ (l0.getD j default).i < 4) ∧ ¬ ct + 1 = cr) by omega) with hix | ⟨hix, hla⟩ | ⟨hix, hla⟩
                  · skip
                    refine g_startM (.r 3 1 0) [.r 16 11 0, .r 16 24 0] [] [.r 3 1 0, .r 3 3 0] rfl ?_
                    refine g_op ?_
                    refine g_op ?_
                    refine g_op ?_
                    refine g_op ?_
                    refine g_op ?_
                    refine g_op ?_
                    refine g_op ?_
                    refine g_op ?_
                    refine g_op ?_
                    refine g_op ?_
                    refine g_op ?_
                    refine g_callp [.r 3 1 0, .r 16 11 0] [] [.r 16 11 0] false (wr_argR Γ hE s l hl h4 cr ct (l0.getD j default).i (l0.getD j default).x hix) ?_
                    refine g_callp [] [] [] false (num_good Γ 1) ?_
                    refine g_op ?_
                    refine g_op ?_
                    refine g_op ?_
                    refine g_op ?_
                    refine g_op ?_
                    refine g_op ?_
                    refine g_op ?_
                    refine g_op ?_
                    refine g_op ?_
                    refine g_op ?_
                    refine g_op ?_
                    refine g_callp [.r 3 3 0, .r 16 24 0] [] [.r 16 24 0] false (rwr_argR Γ s l lf (l0.getD j default).i (l0.getD j default).x hix) ?_
                    refine g_op ?_
                    refine g_nil ⟨m_ok 99 (by kernel_rfl) (by kernel_rfl) (by kernel_rfl) (h5 := by simp [-List.map_map, D.has, D.hasL, push_cast] <;> and_intros <;> (rintro a b (⟨ha, hb⟩ | ⟨ha, hb⟩) <;> intros <;> first | contradiction | (rename_i hob; rw [hb] at hob; cases hob; exact hasL_map_t _ _))), ?_⟩
                    refine q_next ?_
                    refine a_false ?_
                    refine k_skip ?_
                    refine q_block (q_meetF ((false, false, s, l, cr, ct, lf)) (a_le ?_) ?_)
                    · refine le_of [(.r 3 1 0, .r 3 1 0), (.r 3 3 0, .r 3 3 0), (.r 16 11 0, .r 16 11 0), (.r 16 24 0, .r 16 24 0)] ?_ ?_ ?_ <;> simp [-List.map_set, -List.map_replicate, -List.reduceReplicate, -List.map_map, -List.map_drop, -List.map_take, num, bol, txt, w8, w16, w32, w64, lst, cls, rowO, boxO, List.take_of_length_le, acT, chL_app, chL]
                    · refine ⟨?_, ?_, ?_, ?_, ?_, ?_, ?_⟩ <;> (try simp only [List.length_append, List.length_cons, List.length_nil]) <;> first | omega | exact In4_nil | exact In4_snoc h4 hm4 | exact In4_snoc In4_nil hm4 | exact h4 | (intro _; rfl) | (intro _; exact True.intro) | (intro h; cases h)
                  · obtain rfl : lf = 1 := by omega
                    refine g_startM (.r 3 1 0) [.r 16 11 0, .r 16 24 0] [] [.r 3 1 0, .r 3 3 0] rfl ?_
                    refine g_op ?_
                    refine g_op ?_
                    refine g_op ?_
                    refine g_op ?_
                    refine g_op ?_
                    refine g_op ?_
                    refine g_op ?_
                    refine g_op ?_
                    refine g_op ?_
                    refine g_op ?_
                    refine g_op ?_
                    refine g_callp [.r 3 1 0, .r 16 11 0] [] [.r 16 11 0] false (wr_lastR Γ hE s l hl h4 cr ct (l0.getD j default).i (l0.getD j default).x (by omega) (by omega) (by omega) (by omega)) ?_
                    refine g_callp [] [] [] false (num_good Γ 13) ?_
                    refine g_op ?_
                    refine g_op ?_
                    refine g_op ?_
                    refine g_op ?_
                    refine g_op ?_
                    refine g_op ?_
                    refine g_op ?_
                    refine g_op ?_
                    refine g_op ?_
                    refine g_op ?_
                    refine g_op ?_
                    refine g_callp [.r 3 3 0, .r 16 24 0] [] [.r 16 24 0] false (rwr_lastR Γ s l (l0.getD j default).i (l0.getD j default).x (by omega) (by omega)) ?_
                    refine g_op ?_
                    refine g_nil ⟨m_ok 99 (by kernel_rfl) (by kernel_rfl) (by kernel_rfl) (h5 := by simp [-List.map_map, D.has, D.hasL, push_cast] <;> and_intros <;> (rintro a b (⟨ha, hb⟩ | ⟨ha, hb⟩) <;> intros <;> first | contradiction | (rename_i hob; rw [hb] at hob; cases hob; exact hasL_map_t _ _))), ?_⟩
                    refine q_next ?_
                    refine a_false ?_
                    refine k_skip ?_
                    refine q_block (q_meetF ((false, true, s, l, cr, ct + 1, 0)) (a_le ?_) ?_)
                    · refine le_of [(.r 3 1 0, .r 3 1 0), (.r 3 3 0, .r 3 3 0), (.r 16 11 0, .r 16 11 0), (.r 16 24 0, .r 16 24 0)] ?_ ?_ ?_ <;> simp [-List.map_set, -List.map_replicate, -List.reduceReplicate, -List.map_map, -List.map_drop, -List.map_take, num, bol, txt, w8, w16, w32, w64, lst, cls, rowO, boxO, List.take_of_length_le, acT, chL_app, chL]
                    · refine ⟨?_, ?_, ?_, ?_, ?_, ?_, ?_⟩ <;> (try simp only [List.length_append, List.length_cons, List.length_nil]) <;> first | omega | exact In4_nil | exact In4_snoc h4 hm4 | exact In4_snoc In4_nil hm4 | exact h4 | (intro _; rfl) | (intro _; exact True.intro) | (intro h; cases h)
                  · obtain ⟨m, hm⟩ : ∃ m : Nat, (l0.getD j default).i = (m : Int) := ⟨(l0.getD j default).i.toNat, by omega⟩
                    have hm4 : m < 4 := by omega
                    refine g_startM (.r 3 1 0) [.r 16 11 0, .r 16 24 0] [] [.r 3 1 0, .r 3 3 0] rfl ?_
                    refine g_op ?_
                    refine g_op ?_
                    refine g_op ?_
                    refine g_op ?_
                    refine g_op ?_
                    refine g_op ?_
                    simp only [hm]
                    refine g_op ?_
                    refine g_op ?_
                    refine g_op ?_
                    refine g_op ?_
                    refine g_op ?_
                    refine g_callp [.r 3 1 0, .r 16 11 0] [] [.r 16 11 0] false (wr_okR Γ s l hl h4 cr ct m (l0.getD j default).x hm4 (by omega) (by omega)) ?_
                    refine g_callp [] [] [] false (num_good Γ 0) ?_
                    refine g_op ?_
                    refine g_op ?_
                    refine g_op ?_
                    refine g_op ?_
                    refine g_op ?_
                    refine g_op ?_
                    simp only [hm]
                    refine g_op ?_
                    refine g_op ?_
                    refine g_op ?_
                    refine g_op ?_
                    refine g_op ?_
                    refine g_callp [.r 3 3 0, .r 16 24 0] [] [.r 16 24 0] false (rwr_okR Γ s l hl lf (by omega) (by omega) (by omega) m (l0.getD j default).x hm4) ?_
                    refine g_op ?_
                    refine g_nil ⟨m_ok 99 (by kernel_rfl) (by kernel_rfl) (by kernel_rfl) (h5 := by simp [-List.map_map, D.has, D.hasL, push_cast] <;> and_intros <;> (rintro a b (⟨ha, hb⟩ | ⟨ha, hb⟩) <;> intros <;> first | contradiction | (rename_i hob; rw [hb] at hob; cases hob; exact hasL_map_t _ _))), ?_⟩
                    refine q_next ?_
                    refine a_false ?_
                    refine k_skip ?_
                    refine q_block (q_meetF ((false, false, s, l ++ [(m, (l0.getD j default).x)], cr, ct + 1, max 0 (lf - 1))) (a_le ?_) ?_)
                    · refine le_of [(.r 3 1 0, .r 3 1 0), (.r 3 3 0, .r 3 3 0), (.r 16 11 0, .r 16 11 0), (.r 16 24 0, .r 16 24 0)] ?_ ?_ ?_ <;> simp [-List.map_set, -List.map_replicate, -List.reduceReplicate, -List.map_map, -List.map_drop, -List.map_take, num, bol, txt, w8, w16, w32, w64, lst, cls, rowO, boxO, List.take_of_length_le, acT, chL_app, chL]
                    · refine ⟨?_, ?_, ?_, ?_, ?_, ?_, ?_⟩ <;> (try simp only [List.length_append, List.length_cons, List.length_nil]) <;> first | omega | exact In4_nil | exact In4_snoc h4 hm4 | exact In4_snoc In4_nil hm4 | exact h4 | (intro _; rfl) | (intro _; exact True.intro) | (intro h; cases h)
                · (try simp only [Bool.and_eq_true, Bool.or_eq_true, Bool.or_eq_false_iff, Bool.not_eq_true', Bool.not_eq_false', dec_t, dec_f, Bool.and_eq_false_imp, beq_iff_eq, beq_eq_false_iff_ne, ne_eq] at hc5)
                  refine k_seq ?_
                  refine k_region rfl ?_
                  refine a_op ?_
                  refine a_op ?_
                  refine s_nil (r_false ?_)
                  refine q_next ?_
                  refine a_if (fun hc6 => ?_) (fun hc6 => ?_)
                  · (try simp only [Bool.and_eq_true, Bool.or_eq_true, Bool.or_eq_false_iff, Bool.not_eq_true', Bool.not_eq_false', dec_t, dec_f, Bool.and_eq_false_imp, beq_iff_eq, beq_eq_false_iff_ne, ne_eq] at hc6)
                    simp only [bdec_pos hc6]
                    refine k_skip ?_
                    refine q_next ?_
                    refine a_true ?_
                    refine k_seq ?_
                    rcases (show ((l0.getD j default).i < 0 ∨ 4 ≤ (l0.getD j default).i) ∨ ((0 ≤ (l0.getD j default).i ∧ (l0.getD j default).i < 4) ∧ ct + 1 = cr) ∨ ((0 ≤ (l0.getD j default).i ∧ (l0.getD j default).i < 4) ∧ ¬ ct + 1 = cr) by omega) with hix | ⟨hix, hla⟩ | ⟨hix, hla⟩
                    · skip
                      refine g_startM (.r 3 1 0) [.r 16 11 0, .r 16 24 0] [] [.r 3 1 0, .r 3 3 0] rfl ?_
                      refine g_op ?_
                      refine g_op ?_
                      refine g_op ?_
                      refine g_op ?_
                      refine g_op ?_
                      refine g_op ?_
                      refine g_op ?_
                      refine g_op ?_
                      refine g_op ?_
                      refine g_op ?_
                      refine g_op ?_
                      refine g_callp [.r 3 1 0, .r 16 11 0] [] [.r 16 11 0] false (wr_argR Γ hE s l hl h4 cr ct (l0.getD j default).i (l0.getD j default).x hix) ?_
                      refine g_callp [] [] [] false (num_good Γ 1) ?_
                      refine g_op ?_
                      refine g_op ?_
                      refine g_op ?_
                      refine g_op ?_
                      refine g_op ?_
                      refine g_op ?_
                      refine g_op ?_
                      refine g_op ?_
                      refine g_op ?_
                      refine g_op ?_
                      refine g_op ?_
                      refine g_callp [.r 3 3 0, .r 16 24 0] [] [.r 16 24 0] false (rwr_argR Γ s l lf (l0.getD j default).i (l0.getD j default).x hix) ?_
                      refine g_op ?_
                      refine g_nil ⟨m_ok 99 (by kernel_rfl) (by kernel_rfl) (by kernel_rfl) (h5 := by simp [-List.map_map, D.has, D.hasL, push_cast] <;> and_intros <;> (rintro a b (⟨ha, hb⟩ | ⟨ha, hb⟩) <;> intros <;> first | contradiction | (rename_i hob; rw [hb] at hob; cases hob; exact hasL_map_t _ _))), ?_⟩
                      refine q_next ?_
                      refine a_false ?_
                      refine k_skip ?_
                      refine q_block (q_meetF ((false, false, s, l, cr, ct, lf)) (a_le ?_) ?_)
                      · refine le_of [(.r 3 1 0, .r 3 1 0), (.r 3 3 0, .r 3 3 0), (.r 16 11 0, .r 16 11 0), (.r 16 24 0, .r 16 24 0)] ?_ ?_ ?_ <;> simp [-List.map_set, -List.map_replicate, -List.reduceReplicate, -List.map_map, -List.map_drop, -List.map_take, num, bol, txt, w8, w16, w32, w64, lst, cls, rowO, boxO, List.take_of_length_le, acT, chL_app, chL]
                      · refine ⟨?_, ?_, ?_, ?_, ?_, ?_, ?_⟩ <;> (try simp only [List.length_append, List.length_cons, List.length_nil]) <;> first | omega | exact In4_nil | exact In4_snoc h4 hm4 | exact In4_snoc In4_nil hm4 | exact h4 | (intro _; rfl) | (intro _; exact True.intro) | (intro h; cases h)
                    · obtain rfl : lf = 1 := by omega
                      refine g_startM (.r 3 1 0) [.r 16 11 0, .r 16 24 0] [] [.r 3 1 0, .r 3 3 0] rfl ?_
                      refine g_op ?_
                      refine g_op ?_
                      refine g_op ?_
                      refine g_op ?_
                      refine g_op ?_
                      refine g_op ?_
                      refine g_op ?_
                      refine g_op ?_
                      refine g_op ?_
                      refine g_op ?_
                      refine g_op ?_
                      refine g_callp [.r 3 1 0, .r 16 11 0] [] [.r 16 11 0] false (wr_lastR Γ hE s l hl h4 cr ct (l0.getD j default).i (l0.getD j default).x (by omega) (by omega) (by omega) (by omega)) ?_
                      refine g_callp [] [] [] false (num_good Γ 13) ?_
                      refine g_op ?_
                      refine g_op ?_
                      refine g_op ?_
                      refine g_op ?_
                      refine g_op ?_
                      refine g_op ?_
                      refine g_op ?_
                      refine g_op ?_
                      refine g_op ?_
                      refine g_op ?_
                      refine g_op ?_
                      refine g_callp [.r 3 3 0, .r 16 24 0] [] [.r 16 24 0] false (rwr_lastR Γ s l (l0.getD j default).i (l0.getD j default).x (by omega) (by omega)) ?_
                      refine g_op ?_
                      refine g_nil ⟨m_ok 99 (by kernel_rfl) (by kernel_rfl) (by kernel_rfl) (h5 := by simp [-List.map_map, D.has, D.hasL, push_cast] <;> and_intros <;> (rintro a b (⟨ha, hb⟩ | ⟨ha, hb⟩) <;> intros <;> first | contradiction | (rename_i hob; rw [hb] at hob; cases hob; exact hasL_map_t _ _))), ?_⟩
                      refine q_next ?_
                      refine a_false ?_
                      refine k_skip ?_
                      refine q_block (q_meetF ((false, true, s, l, cr, ct + 1, 0)) (a_le ?_) ?_)
                      · refine le_of [(.r 3 1 0, .r 3 1 0), (.r 3 3 0, .r 3 3 0), (.r 16 11 0, .r 16 11 0), (.r 16 24 0, .r 16 24 0)] ?_ ?_ ?_ <;> simp [-List.map_set, -List.map_replicate, -List.reduceReplicate, -List.map_map, -List.map_drop, -List.map_take, num, bol, txt, w8, w16, w32, w64, lst, cls, rowO, boxO, List.take_of_length_le, acT, chL_app, chL]
                      · refine ⟨?_, ?_, ?_, ?_, ?_, ?_, ?_⟩ <;> (try simp only [List.length_append, List.length_cons, List.length_nil]) <;> first | omega | exact In4_nil | exact In4_snoc h4 hm4 | exact In4_snoc In4_nil hm4 | exact h4 | (intro _; rfl) | (intro _; exact True.intro) | (intro h; cases h)
                    · obtain ⟨m, hm⟩ : ∃ m : Nat, (l0.getD j default).i = (m : Int) := ⟨(l0.getD j default).i.toNat, by omega⟩
                      have hm4 : m < 4 := by omega
                      refine g_startM (.r 3 1 0) [.r 16 11 0, .r 16 24 0] [] [.r 3 1 0, .r 3 3 0] rfl ?_
                      refine g_op ?_
                      refine g_op ?_
                      refine g_op ?_
                      refine g_op ?_
                      refine g_op ?_
                      refine g_op ?_
                      simp only [hm]
                      refine g_op ?_
                      refine g_op ?_
                      refine g_op ?_
                      refine g_op ?_
                      refine g_op ?_
                      refine g_callp [.r 3 1 0, .r 16 11 0] [] [.r 16 11 0] false (wr_okR Γ s l hl h4 cr ct m (l0.getD j default).x hm4 (by omega) (by omega)) ?_
                      refine g_callp [] [] [] false (num_good Γ 0) ?_
                      refine g_op ?_
                      refine g_op ?_
                      refine g_op ?_
                      refine g_op ?_
                      refine g_op ?_
                      refine g_op ?_
                      simp only [hm]
                      refine g_op ?_
                      refine g_op ?_
                      refine g_op ?_
                      refine g_op ?_
                      refine g_op ?_
                      refine g_callp [.r 3 3 0, .r 16 24 0] [] [.r 16 24 0] false (rwr_okR Γ s l hl lf (by omega) (by omega) (by omega) m (l0.getD j default).x hm4) ?_
                      refine g_op ?_
                      refine g_nil ⟨m_ok 99 (by kernel_rfl) (by kernel_rfl) (by kernel_rfl) (h5 := by simp [-List.map_map, D.has, D.hasL, push_cast] <;> and_intros <;> (rintro a b (⟨ha, hb⟩ | ⟨ha, hb⟩) <;> intros <;> first | contradiction | (rename_i hob; rw [hb] at hob; cases hob; exact hasL_map_t _ _))), ?_⟩
                      refine q_next ?_
                      refine a_false ?_
                      refine k_skip ?_
                      refine q_block (q_meetF ((false, false, s, l ++ [(m, (l0.getD j default).x)], cr, ct + 1, max 0 (lf - 1))) (a_le ?_) ?_)
                      · refine le_of [(.r 3 1 0, .r 3 1 0), (.r 3 3 0, .r 3 3 0), (.r 16 11 0, .r 16 11 0), (.r 16 24 0, .r 16 24 0)] ?_ ?_ ?_ <;> simp [-List.map_set, -List.map_replicate, -List.reduceReplicate, -List.map_map, -List.map_drop, -List.map_take, num, bol, txt, w8, w16, w32, w64, lst, cls, rowO, boxO, List.take_of_length_le, acT, chL_app, chL]
                      · refine ⟨?_, ?_, ?_, ?_, ?_, ?_, ?_⟩ <;> (try simp only [List.length_append, List.length_cons, List.length_nil]) <;> first | omega | exact In4_nil | exact In4_snoc h4 hm4 | exact In4_snoc In4_nil hm4 | exact h4 | (intro _; rfl) | (intro _; exact True.intro) | (intro h; cases h)
                  · (try simp only [Bool.and_eq_true, Bool.or_eq_true, Bool.or_eq_false_iff, Bool.not_eq_true', Bool.not_eq_false', dec_t, dec_f, Bool.and_eq_false_imp, beq_iff_eq, beq_eq_false_iff_ne, ne_eq] at hc6)
                    refine k_region rfl ?_
                    refine a_op ?_
                    simp only [bdec_pos (show (l0.getD j default).k = 3 by omega)]
                    refine a_op ?_
                    refine s_nil (r_false ?_)
                    refine q_next ?_
                    refine a_true ?_
                    refine k_seq ?_
                    rcases (show ((l0.getD j default).i < 0 ∨ 4 ≤ (l0.getD j default).i) ∨ ((0 ≤ (l0.getD j default).i ∧ (l0.getD j default).i < 4) ∧ ct + 1 = cr) ∨ ((0 ≤ (l0.getD j default).i ∧ (l0.getD j default).i < 4) ∧ ¬ ct + 1 = cr) by omega) with hix | ⟨hix, hla⟩ | ⟨hix, hla⟩
                    · skip
                      refine g_startM (.r 3 1 0) [.r 16 11 0, .r 16 24 0] [] [.r 3 1 0, .r 3 3 0] rfl ?_
                      refine g_op ?_
                      refine g_op ?_
                      refine g_op ?_
                      refine g_op ?_
                      refine g_op ?_
                      refine g_op ?_
                      refine g_op ?_
                      refine g_op ?_
                      refine g_op ?_
                      refine g_op ?_
                      refine g_op ?_
                      refine g_callp [.r 3 1 0, .r 16 11 0] [] [.r 16 11 0] false (wr_argR Γ hE s l hl h4 cr ct (l0.getD j default).i (l0.getD j default).x hix) ?_
                      refine g_callp [] [] [] false (num_good Γ 1) ?_
                      refine g_op ?_
                      refine g_op ?_
                      refine g_op ?_
                      refine g_op ?_
                      refine g_op ?_
                      refine g_op ?_
                      refine g_op ?_
                      refine g_op ?_
                      refine g_op ?_
                      refine g_op ?_
                      refine g_op ?_
                      refine g_callp [.r 3 3 0, .r 16 24 0] [] [.r 16 24 0] false (rwr_argR Γ s l lf (l0.getD j default).i (l0.getD j default).x hix) ?_
                      refine g_op ?_
                      refine g_nil ⟨m_ok 99 (by kernel_rfl) (by kernel_rfl) (by kernel_rfl) (h5 := by simp [-List.map_map, D.has, D.hasL, push_cast] <;> and_intros <;> (rintro a b (⟨ha, hb⟩ | ⟨ha, hb⟩) <;> intros <;> first | contradiction | (rename_i hob; rw [hb] at hob; cases hob; exact hasL_map_t _ _))), ?_⟩
                      refine q_next ?_
                      refine a_false ?_
                      refine k_skip ?_
                      refine q_block (q_meetF ((false, false, s, l, cr, ct, lf)) (a_le ?_) ?_)
                      · refine le_of [(.r 3 1 0, .r 3 1 0), (.r 3 3 0, .r 3 3 0), (.r 16 11 0, .r 16 11 0), (.r 16 24 0, .r 16 24 0)] ?_ ?_ ?_ <;> simp [-List.map_set, -List.map_replicate, -List.reduceReplicate, -List.map_map, -List.map_drop, -List.map_take, num, bol, txt, w8, w16, w32, w64, lst, cls, rowO, boxO, List.take_of_length_le, acT, chL_app, chL]
                      · refine ⟨?_, ?_, ?_, ?_, ?_, ?_, ?_⟩ <;> (try simp only [List.length_append, List.length_cons, List.length_nil]) <;> first | omega | exact In4_nil | exact In4_snoc h4 hm4 | exact In4_snoc In4_nil hm4 | exact h4 | (intro _; rfl) | (intro _; exact True.intro) | (intro h; cases h)
                    · obtain rfl : lf = 1 := by omega
                      refine g_startM (.r 3 1 0) [.r 16 11 0, .r 16 24 0] [] [.r 3 1 0, .r 3 3 0] rfl ?_
                      refine g_op ?_
                      refine g_op ?_
                      refine g_op ?_
                      refine g_op ?_
                      refine g_op ?_
                      refine g_op ?_
                      refine g_op ?_
                      refine g_op ?_
                      refine g_op ?_
                      refine g_op ?_
                      refine g_op ?_
                      refine g_callp [.r 3 1 0, .r 16 11 0] [] [.r 16 11 0] false (wr_lastR Γ hE s l hl h4 cr ct (l0.getD j default).i (l0.getD j default).x (by omega) (by omega) (by omega) (by omega)) ?_
                      refine g_callp [] [] [] false (num_good Γ 13) ?_
                      refine g_op ?_
                      refine g_op ?_
                      refine g_op ?_
                      refine g_op ?_
                      refine g_op ?_
                      refine g_op ?_
                      refine g_op ?_
                      refine g_op ?_
                      refine g_op ?_
                      refine g_op ?_
                      refine g_op ?_
                      refine g_callp [.r 3 3 0, .r 16 24 0] [] [.r 16 24 0] false (rwr_lastR Γ s l (l0.getD j default).i (l0.getD j default).x (by omega) (by omega)) ?_
                      refine g_op ?_
                      refine g_nil ⟨m_ok 99 (by kernel_rfl) (by kernel_rfl) (by kernel_rfl) (h5 := by simp [-List.map_map, D.has, D.hasL, push_cast] <;> and_intros <;> (rintro a b (⟨ha, hb⟩ | ⟨ha, hb⟩) <;> intros <;> first | contradiction | (rename_i hob; rw [hb] at hob; cases hob; exact hasL_map_t _ _))), ?_⟩
                      refine q_next ?_
                      refine a_false ?_
                      refine k_skip ?_
                      refine q_block (q_meetF ((false, true, s, l, cr, ct + 1, 0)) (a_le ?_) ?_)
                      · refine le_of [(.r 3 1 0, .r 3 1 0), (.r 3 3 0, .r 3 3 0), (.r 16 11 0, .r 16 11 0), (.r 16 24 0, .r 16 24 0)] ?_ ?_ ?_ <;> simp [-List.map_set, -List.map_replicate, -List.reduceReplicate, -List.map_map, -List.map_drop, -List.map_take, num, bol, txt, w8, w16, w32, w64, lst, cls, rowO, boxO, List.take_of_length_le, acT, chL_app, chL]
                      · refine ⟨?_, ?_, ?_, ?_, ?_, ?_, ?_⟩ <;> (try simp only [List.length_append, List.length_cons, List.length_nil]) <;> first | omega | exact In4_nil | exact In4_snoc h4 hm4 | exact In4_snoc In4_nil hm4 | exact h4 | (intro _; rfl) | (intro _; exact True.intro) | (intro h; cases h)
                    · obtain ⟨m, hm⟩ : ∃ m : Nat, (l0.getD j default).i = (m : Int) := ⟨(l0.getD j default).i.toNat, by omega⟩
                      have hm4 : m < 4 := by omega
                      refine g_startM (.r 3 1 0) [.r 16 11 0, .r 16 24 0] [] [.r 3 1 0, .r 3 3 0] rfl ?_
                      refine g_op ?_
                      refine g_op ?_
                      refine g_op ?_
                      refine g_op ?_
                      refine g_op ?_
                      refine g_op ?_
                      simp only [hm]
                      refine g_op ?_
                      refine g_op ?_
                      refine g_op ?_
                      refine g_op ?_
                      refine g_op ?_
                      refine g_callp [.r 3 1 0, .r 16 11 0] [] [.r 16 11 0] false (wr_okR Γ s l hl h4 cr ct m (l0.getD j default).x hm4 (by omega) (by omega)) ?_
                      refine g_callp [] [] [] false (num_good Γ 0) ?_
                      refine g_op ?_
                      refine g_op ?_
                      refine g_op ?_
                      refine g_op ?_
                      refine g_op ?_
                      refine g_op ?_
                      simp only [hm]
                      refine g_op ?_
                      refine g_op ?_
                      refine g_op ?_
                      refine g_op ?_
                      refine g_op ?_
                      refine g_callp [.r 3 3 0, .r 16 24 0] [] [.r 16 24 0] false (rwr_okR Γ s l hl lf (by omega) (by omega) (by omega) m (l0.getD j default).x hm4) ?_
                      refine g_op ?_
                      refine g_nil ⟨m_ok 99 (by kernel_rfl) (by kernel_rfl) (by kernel_rfl) (h5 := by simp [-List.map_map, D.has, D.hasL, push_cast] <;> and_intros <;> (rintro a b (⟨ha, hb⟩ | ⟨ha, hb⟩) <;> intros <;> first | contradiction | (rename_i hob; rw [hb] at hob; cases hob; exact hasL_map_t _ _))), ?_⟩
                      refine q_next ?_
                      refine a_false ?_
                      refine k_skip ?_
                      refine q_block (q_meetF ((false, false, s, l ++ [(m, (l0.getD j default).x)], cr, ct + 1, max 0 (lf - 1))) (a_le ?_) ?_)
                      · refine le_of [(.r 3 1 0, .r 3 1 0), (.r 3 3 0, .r 3 3 0), (.r 16 11 0, .r 16 11 0), (.r 16 24 0, .r 16 24 0)] ?_ ?_ ?_ <;> simp [-List.map_set, -List.map_replicate, -List.reduceReplicate, -List.map_map, -List.map_drop, -List.map_take, num, bol, txt, w8, w16, w32, w64, lst, cls, rowO, boxO, List.take_of_length_le, acT, chL_app, chL]
                      · refine ⟨?_, ?_, ?_, ?_, ?_, ?_, ?_⟩ <;> (try simp only [List.length_append, List.length_cons, List.length_nil]) <;> first | omega | exact In4_nil | exact In4_snoc h4 hm4 | exact In4_snoc In4_nil hm4 | exact h4 | (intro _; rfl) | (intro _; exact True.intro) | (intro h; cases h)
            · skip
              refine a_op ?_
              refine a_op ?_
              refine s_nil (r_false ?_)
              refine q_next ?_
              refine a_false ?_
              refine k_seq ?_
              refine k_region rfl ?_
              refine a_op ?_
              refine a_op ?_
              refine s_nil (r_false ?_)
              refine q_next ?_
              refine a_false ?_
              refine k_seq ?_
              refine k_region rfl ?_
              refine a_op ?_
              refine a_op ?_
              refine s_nil (r_false ?_)
              refine q_next ?_
              refine a_false ?_
              refine k_region rfl ?_
              refine a_op ?_
              skip
              refine a_op ?_
              refine s_nil (r_false ?_)
              refine q_next ?_
              refine a_false ?_
              refine k_seq ?_
              refine k_region rfl ?_
              refine a_op ?_
              refine a_op ?_
              refine s_nil (r_false ?_)
              refine q_next ?_
              refine a_true ?_
              refine k_seq ?_
              refine k_region rfl ?_
              rcases (show ct + 1 = cr ∨ ¬ ct + 1 = cr by omega) with hla | hla
              · obtain rfl : lf = 1 := by omega
                refine a_op ?_
                refine a_callp [.r 3 1 0, .r 16 11 0] [] [.r 16 11 0] false (sy_lastR Γ hE s l hl h4 cr ct (by omega) (by omega)) ?_
                refine a_call [] false (num_good Γ 13) ?_
                refine a_op ?_
                refine a_callp [.r 3 3 0, .r 16 24 0] [] [.r 16 24 0] false (rsy_lastR Γ s l hl h4 ) ?_
                refine a_op ?_
                refine s_nil (r_false ?_)
                refine q_next ?_
                refine a_false ?_
                refine k_skip ?_
                refine q_block (q_meetF ((false, true, s, l, cr, ct + 1, 0)) (a_le ?_) ?_)
                · refine le_of [(.r 3 1 0, .r 3 1 0), (.r 3 3 0, .r 3 3 0), (.r 16 11 0, .r 16 11 0), (.r 16 24 0, .r 16 24 0)] ?_ ?_ ?_ <;> simp [-List.map_set, -List.map_replicate, -List.reduceReplicate, -List.map_map, -List.map_drop, -List.map_take, num, bol, txt, w8, w16, w32, w64, lst, cls, rowO, boxO, List.take_of_length_le, acT, chL_app, chL]
                · refine ⟨?_, ?_, ?_, ?_, ?_, ?_, ?_⟩ <;> (try simp only [List.length_append, List.length_cons, List.length_nil]) <;> first | omega | exact In4_nil | exact In4_snoc h4 hm4 | exact In4_snoc In4_nil hm4 | exact h4 | (intro _; rfl) | (intro _; exact True.intro) | (intro h; cases h)
              · skip
                refine a_op ?_
                refine a_callp [.r 3 1 0, .r 16 11 0] [] [.r 16 11 0] false (sy_okR Γ s l hl h4 cr ct (by omega) (by omega)) ?_
                refine a_call [] false (num_good Γ 0) ?_
                refine a_op ?_
                refine a_callp [.r 3 3 0, .r 16 24 0] [] [.r 16 24 0] false (rsy_okR Γ s l hl h4 lf (by omega) (by omega) (by omega)) ?_
                refine a_op ?_
                refine s_nil (r_false ?_)
                refine q_next ?_
                refine a_false ?_
                refine k_skip ?_
                refine q_block (q_meetF ((true, false, nowF s l, [], cr, ct + 1, max 0 (lf - 1))) (a_le ?_) ?_)
                · refine le_of [(.r 3 1 0, .r 3 1 0), (.r 3 3 0, .r 3 3 0)] ?_ ?_ ?_ <;> simp [-List.map_set, -List.map_replicate, -List.reduceReplicate, -List.map_map, -List.map_drop, -List.map_take, num, bol, txt, w8, w16, w32, w64, lst, cls, rowO, boxO, List.take_of_length_le, acT, chL_app, chL]
                · refine ⟨?_, ?_, ?_, ?_, ?_, ?_, ?_⟩ <;> (try simp only [List.length_append, List.length_cons, List.length_nil]) <;> first | omega | exact In4_nil | exact In4_snoc h4 hm4 | exact In4_snoc In4_nil hm4 | exact h4 | (intro _; rfl) | (intro _; exact True.intro) | (intro h; cases h)
            · skip
              refine a_op ?_
              refine a_op ?_
              refine s_nil (r_false ?_)
              refine q_next ?_
              refine a_false ?_
              refine k_seq ?_
              refine k_region rfl ?_
              refine a_op ?_
              refine a_op ?_
              refine s_nil (r_false ?_)
              refine q_next ?_
              refine a_false ?_
              refine k_seq ?_
              refine k_region rfl ?_
              refine a_op ?_
              refine a_op ?_
              refine s_nil (r_false ?_)
              refine q_next ?_
              refine a_false ?_
              refine k_region rfl ?_
              refine a_op ?_
              skip
              refine a_op ?_
              refine s_nil (r_false ?_)
              refine q_next ?_
              refine a_false ?_
              refine k_seq ?_
              refine k_region rfl ?_
              refine a_op ?_
              refine a_op ?_
              refine s_nil (r_false ?_)
              refine q_next ?_
              refine a_false ?_
              refine k_seq ?_
              refine k_region rfl ?_
              refine a_op ?_
              refine a_op ?_
              refine s_nil (r_false ?_)
              refine q_next ?_
              refine a_true ?_
              refine k_seq ?_
              refine k_region rfl ?_
              iterate 6 refine a_op ?_
              refine a_callp [.r 3 1 0, .r 16 11 0] [] [.r 16 11 0] false (tearR Γ s l hl h4 cr ct false (l0.getD j default).i) ?_
              refine s_nil (r_false ?_)
              refine q_next ?_
              refine k_region rfl ?_
              iterate 6 refine a_op ?_
              refine a_callp [.r 3 3 0, .r 16 24 0] [] [.r 16 24 0] false (rtearR Γ s l hl h4 lf false (l0.getD j default).i) ?_
              refine s_nil (r_false ?_)
              refine q_block (q_meetF ((false, false, s, l, (l0.getD j default).i, 0, max 0 (l0.getD j default).i)) (a_le ?_) ?_)
              · refine le_of [(.r 3 1 0, .r 3 1 0), (.r 3 3 0, .r 3 3 0), (.r 16 11 0, .r 16 11 0), (.r 16 24 0, .r 16 24 0)] ?_ ?_ ?_ <;> simp [-List.map_set, -List.map_replicate, -List.reduceReplicate, -List.map_map, -List.map_drop, -List.map_take, num, bol, txt, w8, w16, w32, w64, lst, cls, rowO, boxO, List.take_of_length_le, acT, chL_app, chL]
              · refine ⟨?_, ?_, ?_, ?_, ?_, ?_, ?_⟩ <;> (try simp only [List.length_append, List.length_cons, List.length_nil]) <;> first | omega | exact In4_nil | exact In4_snoc h4 hm4 | exact In4_snoc In4_nil hm4 | exact h4 | (intro _; rfl) | (intro _; exact True.intro) | (intro h; cases h)
            · skip
              refine a_op ?_
              refine a_op ?_
              refine s_nil (r_false ?_)
              refine q_next ?_
              refine a_false ?_
              refine k_seq ?_
              refine k_region rfl ?_
              refine a_op ?_
              refine a_op ?_
              refine s_nil (r_false ?_)
              refine q_next ?_
              refine a_false ?_
              refine k_seq ?_
              refine k_region rfl ?_
              refine a_op ?_
              refine a_op ?_
              refine s_nil (r_false ?_)
              refine q_next ?_
              refine a_false ?_
              refine k_region rfl ?_
              refine a_op ?_
              skip
              refine a_op ?_
              refine s_nil (r_false ?_)
              refine q_next ?_
              refine a_false ?_
              refine k_seq ?_
              refine k_region rfl ?_
              refine a_op ?_
              refine a_op ?_
              refine s_nil (r_false ?_)
              refine q_next ?_
              refine a_false ?_
              refine k_seq ?_
              refine k_region rfl ?_
              refine a_op ?_
              refine a_op ?_
              refine s_nil (r_false ?_)
              refine q_next ?_
              refine a_false ?_
              refine k_seq ?_
              refine k_region rfl ?_
              refine a_op ?_
              refine a_op ?_
              refine s_nil (r_false ?_)
              refine q_next ?_
              refine a_true ?_
              refine k_seq ?_
              refine k_region rfl ?_
              iterate 6 refine a_op ?_
              refine a_callp [.r 3 1 0, .r 16 11 0] [] [.r 16 11 0] false (fallR Γ s l hl h4 cr ct false (l0.getD j default).c (l0.getD j default).ks hks) ?_
              refine s_nil (r_false ?_)
              refine q_next ?_
              refine k_region rfl ?_
              iterate 6 refine a_op ?_
              refine a_callp [.r 3 3 0, .r 16 24 0] [] [.r 16 24 0] false (rfallR Γ s l hl h4 lf false (l0.getD j default).c (l0.getD j default).ks hks) ?_
              refine s_nil (r_false ?_)
              refine q_block (q_meetF ((true, false, (fallF s l (l0.getD j default).ks l.length), [], (l0.getD j default).c, 0, max 0 (l0.getD j default).c)) (a_le ?_) ?_)
              · refine le_of [(.r 3 1 0, .r 3 1 0), (.r 3 3 0, .r 3 3 0)] ?_ ?_ ?_ <;> simp [-List.map_set, -List.map_replicate, -List.reduceReplicate, -List.map_map, -List.map_drop, -List.map_take, num, bol, txt, w8, w16, w32, w64, lst, cls, rowO, boxO, List.take_of_length_le, acT, chL_app, chL]
              · refine ⟨?_, ?_, ?_, ?_, ?_, ?_, ?_⟩ <;> (try simp only [List.length_append, List.length_cons, List.length_nil]) <;> first | omega | exact In4_nil | exact In4_snoc h4 hm4 | exact In4_snoc In4_nil hm4 | exact h4 | (intro _; rfl) | (intro _; exact True.intro) | (intro h; cases h)
            · skip
              refine a_op ?_
              refine a_op ?_
              refine s_nil (r_false ?_)
              refine q_next ?_
              refine a_false ?_
              refine k_seq ?_
              refine k_region rfl ?_
              refine a_op ?_
              refine a_op ?_
              refine s_nil (r_false ?_)
              refine q_next ?_
              refine a_false ?_
              refine k_seq ?_
              refine k_region rfl ?_
              refine a_op ?_
              refine a_op ?_
              refine s_nil (r_false ?_)
              refine q_next ?_
              refine a_false ?_
              refine k_region rfl ?_
              refine a_op ?_
              skip
              refine a_op ?_
              refine s_nil (r_false ?_)
              refine q_next ?_
              refine a_false ?_
              refine k_seq ?_
              refine k_region rfl ?_
              refine a_op ?_
              refine a_op ?_
              refine s_nil (r_false ?_)
              refine q_next ?_
              refine a_false ?_
              refine k_seq ?_
              refine k_region rfl ?_
              refine a_op ?_
              refine a_op ?_
              refine s_nil (r_false ?_)
              refine q_next ?_
              refine a_false ?_
              refine k_seq ?_
              refine k_region rfl ?_
              refine a_op ?_
              refine a_op ?_
              refine s_nil (r_false ?_)
              refine q_next ?_
              refine a_false ?_
              refine k_skip ?_
              refine q_block (q_meetF ((false, false, s, l, cr, ct, lf)) (a_le ?_) ?_)
              · refine le_of [(.r 3 1 0, .r 3 1 0), (.r 3 3 0, .r 3 3 0), (.r 16 11 0, .r 16 11 0), (.r 16 24 0, .r 16 24 0)] ?_ ?_ ?_ <;> simp [-List.map_set, -List.map_replicate, -List.reduceReplicate, -List.map_map, -List.map_drop, -List.map_take, num, bol, txt, w8, w16, w32, w64, lst, cls, rowO, boxO, List.take_of_length_le, acT, chL_app, chL]
              · refine ⟨?_, ?_, ?_, ?_, ?_, ?_, ?_⟩ <;> (try simp only [List.length_append, List.length_cons, List.length_nil]) <;> first | omega | exact In4_nil | exact In4_snoc h4 hm4 | exact In4_snoc In4_nil hm4 | exact h4 | (intro _; rfl) | (intro _; exact True.intro) | (intro h; cases h)
          · rintro ⟨z, dn, s, l, cr, ct, lf⟩ hq
            obtain ⟨hl0, h4, hz, hct0, hct, hcr, hlf⟩ := hq
            simp only at hl0 h4 hz hct0 hct hcr hlf
            have hl : l.length ≤ 1000000 := by omega
            have h6 : (z = true ∧ l = [] ∧ dn = true) ∨ (z = true ∧ l = [] ∧ dn = false) ∨ (z = false ∧ dn = true) ∨ (z = false ∧ dn = false) := by
              rcases z with _ | _ <;> rcases dn with _ | _ <;> simp_all
            clear hz
            rcases h6 with ⟨rfl, rfl, rfl⟩ | ⟨rfl, rfl, rfl⟩ | ⟨rfl, rfl⟩ | ⟨rfl, rfl⟩
            · refine a_st ?_
              refine k_seq ?_
              refine k_seq ?_
              refine k_region rfl ?_
              refine a_op ?_
              refine s_nil (r_false ?_)
              refine q_next ?_
              refine k_block ?_
              refine k_loopF (fun sl L (k : Int) => ⟨setAll (setBad sl [0, 2, 4, 9, 10, 11, 12, 13, 14, 15, 16, 17, 18, 19, 20, 21, 22, 23, 24, 25, 26, 29, 30, 31, 32, 33, 34, 35, 36, 37, 38, 39, 40, 41, 42, 43, 44, 45, 46, 47, 48, 49, 50, 52, 53, 54, 55, 56, 57, 58, 59, 60, 61, 62, 63, 64, 65, 66, 67, 68, 69, 70, 71, 72, 73, 74, 75, 76, 77, 78, 79, 80, 81, 82, 83, 84, 85, 86, 87, 88, 89, 90, 91, 92, 93, 94, 95, 96, 97, 98, 99, 100, 101, 102, 103, 104, 105, 106, 107, 108, 109, 110, 111, 112, 113, 114, 115, 116, 117, 118, 119, 120, 121, 122, 123, 124, 125, 126, 127, 128, 129, 130, 131, 132, 133, 134, 135, 136, 137, 138, 139, 140, 141, 142, 143, 144, 145, 146, 147]) [(8, .t (num k))], Go.Ot.look (L)⟩) (fun k => -1 ≤ k ∧ k ≤ 5) (fun k => (5 - k).toNat) ((-1)) (a_le ?_) ?_ ?_
              · refine le_same ?_ ?_ ?_ <;> simp [-List.map_set, -List.map_replicate, -List.reduceReplicate, -List.map_map, -List.map_drop, -List.map_take, num, bol, txt, w8, w16, w32, w64, lst, cls, rowO, boxO, List.take_of_length_le, acT]
              · (first | omega | simp)
              · intro k hk
                refine a_st ?_
                refine k_seq ?_
                refine k_seq ?_
                refine k_region rfl ?_
                refine a_op ?_
                refine a_op ?_
                refine s_nil (r_false ?_)
                refine q_next ?_
                refine a_if (fun hc13 => ?_) (fun hc13 => ?_)
                · (try simp only [Bool.and_eq_true, Bool.or_eq_true, Bool.or_eq_false_iff, Bool.not_eq_true', Bool.not_eq_false', dec_t, dec_f, Bool.and_eq_false_imp, beq_iff_eq, beq_eq_false_iff_ne, ne_eq] at hc13)
                  refine k_skip ?_
                  refine q_next ?_
                  refine k_seq ?_
                  refine k_block ?_
                  refine k_seq ?_
                  refine k_region rfl ?_
                  skip
                  refine a_op ?_
                  refine a_op ?_
                  refine a_callp [.r 3 1 0] [] [] false (rd_dnN Γ hE s cr ct k) ?_
                  iterate 5 refine a_op ?_
                  refine s_nil (r_false ?_)
                  refine q_next ?_
                  refine k_seq ?_
                  refine k_region rfl ?_
                  refine a_op ?_
                  refine a_op ?_
                  refine a_callp [.r 3 3 0] [] [] false (rrd_dnN Γ s lf k) ?_
                  iterate 5 refine a_op ?_
                  refine s_nil (r_false ?_)
                  refine q_next ?_
                  refine k_seq ?_
                  refine k_region rfl ?_
                  iterate 4 refine a_op ?_
                  refine a_go ?_
                  refine a_callgo [] false (num_good Γ 13) ?_
                  refine a_go ?_
                  refine a_go ?_
                  refine a_op ?_
                  refine s_nil (r_false ?_)
                  refine q_next ?_
                  refine a_false ?_
                  refine k_skip ?_
                  refine q_block (q_next ?_)
                  refine k_region rfl ?_
                  iterate 3 refine a_op ?_
                  refine s_nil (r_false ?_)
                  refine q_loopF ((k + 1)) (a_le ?_) ?_ ?_
                  · refine le_same ?_ ?_ ?_ <;> simp [-List.map_set, -List.map_replicate, -List.reduceReplicate, -List.map_map, -List.map_drop, -List.map_take, num, bol, txt, w8, w16, w32, w64, lst, cls, rowO, boxO, List.take_of_length_le, acT]
                  · (first | omega | (simp_all <;> omega))
                  · (first | omega | (simp only []; omega))
                · (try simp only [Bool.and_eq_true, Bool.or_eq_true, Bool.or_eq_false_iff, Bool.not_eq_true', Bool.not_eq_false', dec_t, dec_f, Bool.and_eq_false_imp, beq_iff_eq, beq_eq_false_iff_ne, ne_eq] at hc13)
                  refine k_exit ?_
                  refine q_seq_exit (q_loopF_exit (q_block_exit (q_next ?_)))
                  refine k_seq ?_
                  refine k_region rfl ?_
                  refine a_opd ?_
                  refine a_callpd [.r 3 1 0] [] [] false (downN Γ s cr ct true) ?_
                  iterate 6 refine a_opd ?_
                  refine a_god ?_
                  refine a_callpgod [.r 3 1 0] [] [] false (looseN Γ s cr ct true) ?_
                  refine a_god ?_
                  refine a_god ?_
                  refine a_god ?_
                  refine a_god ?_
                  refine a_god ?_
                  refine a_god ?_
                  refine a_opd ?_
                  refine s_nil (r_true (by kernel_rfl) ?_)
                  refine q_next ?_
                  refine a_false ?_
                  refine k_skip ?_
                  refine q_block (q_next ?_)
                  refine k_region rfl ?_
                  iterate 3 refine a_op ?_
                  refine s_nil (r_false ?_)
                  refine q_loopF ((j + 1, true, true, s, [], cr, ct, lf)) (a_le ?_) ?_ ?_
                  · refine le_same ?_ ?_ ?_ <;> simp [-List.map_set, -List.map_replicate, -List.reduceReplicate, -List.map_map, -List.map_drop, -List.map_take, num, bol, txt, w8, w16, w32, w64, lst, cls, rowO, boxO, List.take_of_length_le, acT]
                  · refine ⟨?_, ?_, ?_, ?_, ?_, ?_, ?_, ?_⟩ <;> (try simp only [List.length_append, List.length_cons, List.length_nil]) <;> first | omega | exact In4_nil | exact In4_snoc h4 hm4 | exact In4_snoc In4_nil hm4 | exact h4 | (intro _; rfl) | (intro _; exact True.intro) | (intro h; cases h)
                  · simp only []; omega
            · refine a_st ?_
              refine k_seq ?_
              refine k_seq ?_
              refine k_region rfl ?_
              refine a_op ?_
              refine s_nil (r_false ?_)
              refine q_next ?_
              refine k_block ?_
              refine k_loopF (fun sl L (k : Int) => ⟨setAll (setBad sl [0, 2, 4, 9, 10, 11, 12, 13, 14, 15, 16, 17, 18, 19, 20, 21, 22, 23, 24, 25, 26, 29, 30, 31, 32, 33, 34, 35, 36, 37, 38, 39, 40, 41, 42, 43, 44, 45, 46, 47, 48, 49, 50, 52, 53, 54, 55, 56, 57, 58, 59, 60, 61, 62, 63, 64, 65, 66, 67, 68, 69, 70, 71, 72, 73, 74, 75, 76, 77, 78, 79, 80, 81, 82, 83, 84, 85, 86, 87, 88, 89, 90, 91, 92, 93, 94, 95, 96, 97, 98, 99, 100, 101, 102, 103, 104, 105, 106, 107, 108, 109, 110, 111, 112, 113, 114, 115, 116, 117, 118, 119, 120, 121, 122, 123, 124, 125, 126, 127, 128, 129, 130, 131, 132, 133, 134, 135, 136, 137, 138, 139, 140, 141, 142, 143, 144, 145, 146, 147]) [(8, .t (num k))], Go.Ot.look (L)⟩) (fun k => -1 ≤ k ∧ k ≤ 5) (fun k => (5 - k).toNat) ((-1)) (a_le ?_) ?_ ?_
              · refine le_same ?_ ?_ ?_ <;> simp [-List.map_set, -List.map_replicate, -List.reduceReplicate, -List.map_map, -List.map_drop, -List.map_take, num, bol, txt, w8, w16, w32, w64, lst, cls, rowO, boxO, List.take_of_length_le, acT]
              · (first | omega | simp)
              · intro k hk
                refine a_st ?_
                refine k_seq ?_
                refine k_seq ?_
                refine k_region rfl ?_
                refine a_op ?_
                refine a_op ?_
                refine s_nil (r_false ?_)
                refine q_next ?_
                refine a_if (fun hc13 => ?_) (fun hc13 => ?_)
                · (try simp only [Bool.and_eq_true, Bool.or_eq_true, Bool.or_eq_false_iff, Bool.not_eq_true', Bool.not_eq_false', dec_t, dec_f, Bool.and_eq_false_imp, beq_iff_eq, beq_eq_false_iff_ne, ne_eq] at hc13)
                  refine k_skip ?_
                  refine q_next ?_
                  refine k_seq ?_
                  refine k_block ?_
                  refine k_seq ?_
                  refine k_region rfl ?_
                  rcases (show (0 ≤ k ∧ k < 4) ∨ (k < 0 ∨ 4 ≤ k) by omega) with hkm | hkm
                  · obtain ⟨m, rfl⟩ : ∃ m : Nat, k = (m : Int) := ⟨k.toNat, by omega⟩
                    have hm4 : m < 4 := by omega
                    refine a_op ?_
                    refine a_op ?_
                    refine a_callp [.r 3 1 0] [] [] false (rd_okN Γ s cr ct m hm4) ?_
                    iterate 5 refine a_op ?_
                    refine s_nil (r_false ?_)
                    refine q_next ?_
                    refine k_seq ?_
                    refine k_region rfl ?_
                    refine a_op ?_
                    refine a_op ?_
                    refine a_callp [.r 3 3 0] [] [] false (rrd_okN Γ s lf m hm4) ?_
                    iterate 5 refine a_op ?_
                    refine s_nil (r_false ?_)
                    refine q_next ?_
                    refine k_seq ?_
                    refine k_region rfl ?_
                    iterate 4 refine a_op ?_
                    refine a_go ?_
                    refine a_callgo [] false (num_good Γ 0) ?_
                    refine a_go ?_
                    refine a_go ?_
                    refine a_op ?_
                    refine s_nil (r_false ?_)
                    refine q_next ?_
                    refine a_false ?_
                    refine k_skip ?_
                    refine q_block (q_next ?_)
                    refine k_region rfl ?_
                    iterate 3 refine a_op ?_
                    refine s_nil (r_false ?_)
                    refine q_loopF (((m : Int) + 1)) (a_le ?_) ?_ ?_
                    · refine le_same ?_ ?_ ?_ <;> simp [-List.map_set, -List.map_replicate, -List.reduceReplicate, -List.map_map, -List.map_drop, -List.map_take, num, bol, txt, w8, w16, w32, w64, lst, cls, rowO, boxO, List.take_of_length_le, acT]
                    · (first | omega | (simp_all <;> omega))
                    · (first | omega | (simp only []; omega))
                  · skip
                    refine a_op ?_
                    refine a_op ?_
                    refine a_callp [.r 3 1 0] [] [] false (rd_argN Γ hE s cr ct k (by omega)) ?_
                    iterate 5 refine a_op ?_
                    refine s_nil (r_false ?_)
                    refine q_next ?_
                    refine k_seq ?_
                    refine k_region rfl ?_
                    refine a_op ?_
                    refine a_op ?_
                    refine a_callp [.r 3 3 0] [] [] false (rrd_argN Γ s lf k (by omega)) ?_
                    iterate 5 refine a_op ?_
                    refine s_nil (r_false ?_)
                    refine q_next ?_
                    refine k_seq ?_
                    refine k_region rfl ?_
                    iterate 4 refine a_op ?_
                    refine a_go ?_
                    refine a_callgo [] false (num_good Γ 1) ?_
                    refine a_go ?_
                    refine a_go ?_
                    refine a_op ?_
                    refine s_nil (r_false ?_)
                    refine q_next ?_
                    refine a_false ?_
                    refine k_skip ?_
                    refine q_block (q_next ?_)
                    refine k_region rfl ?_
                    iterate 3 refine a_op ?_
                    refine s_nil (r_false ?_)
                    refine q_loopF ((k + 1)) (a_le ?_) ?_ ?_
                    · refine le_same ?_ ?_ ?_ <;> simp [-List.map_set, -List.map_replicate, -List.reduceReplicate, -List.map_map, -List.map_drop, -List.map_take, num, bol, txt, w8, w16, w32, w64, lst, cls, rowO, boxO, List.take_of_length_le, acT]
                    · (first | omega | (simp_all <;> omega))
                    · (first | omega | (simp only []; omega))
                · (try simp only [Bool.and_eq_true, Bool.or_eq_true, Bool.or_eq_false_iff, Bool.not_eq_true', Bool.not_eq_false', dec_t, dec_f, Bool.and_eq_false_imp, beq_iff_eq, beq_eq_false_iff_ne, ne_eq] at hc13)
                  refine k_exit ?_
                  refine q_seq_exit (q_loopF_exit (q_block_exit (q_next ?_)))
                  refine k_seq ?_
                  refine k_region rfl ?_
                  refine a_opd ?_
                  refine a_callpd [.r 3 1 0] [] [] false (downN Γ s cr ct false) ?_
                  iterate 6 refine a_opd ?_
                  refine a_god ?_
                  refine a_callpgod [.r 3 1 0] [] [] false (looseN Γ s cr ct false) ?_
                  refine a_god ?_
                  refine a_god ?_
                  refine a_god ?_
                  refine a_god ?_
                  refine a_god ?_
                  refine a_god ?_
                  refine a_opd ?_
                  refine s_nil (r_true (by kernel_rfl) ?_)
                  refine q_next ?_
                  refine a_false ?_
                  refine k_skip ?_
                  refine q_block (q_next ?_)
                  refine k_region rfl ?_
                  iterate 3 refine a_op ?_
                  refine s_nil (r_false ?_)
                  refine q_loopF ((j + 1, true, false, s, [], cr, ct, lf)) (a_le ?_) ?_ ?_
                  · refine le_same ?_ ?_ ?_ <;> simp [-List.map_set, -List.map_replicate, -List.reduceReplicate, -List.map_map, -List.map_drop, -List.map_take, num, bol, txt, w8, w16, w32, w64, lst, cls, rowO, boxO, List.take_of_length_le, acT]
                  · refine ⟨?_, ?_, ?_, ?_, ?_, ?_, ?_, ?_⟩ <;> (try simp only [List.length_append, List.length_cons, List.length_nil]) <;> first | omega | exact In4_nil | exact In4_snoc h4 hm4 | exact In4_snoc In4_nil hm4 | exact h4 | (intro _; rfl) | (intro _; exact True.intro) | (intro h; cases h)
                  · simp only []; omega
            · refine a_st ?_
              refine k_seq ?_
              refine k_seq ?_
              refine k_region rfl ?_
              refine a_op ?_
              refine s_nil (r_false ?_)
              refine q_next ?_
              refine k_block ?_
              refine k_loopF (fun sl L (k : Int) => ⟨setAll (setBad sl [0, 2, 4, 9, 10, 11, 12, 13, 14, 15, 16, 17, 18, 19, 20, 21, 22, 23, 24, 25, 26, 29, 30, 31, 32, 33, 34, 35, 36, 37, 38, 39, 40, 41, 42, 43, 44, 45, 46, 47, 48, 49, 50, 52, 53, 54, 55, 56, 57, 58, 59, 60, 61, 62, 63, 64, 65, 66, 67, 68, 69, 70, 71, 72, 73, 74, 75, 76, 77, 78, 79, 80, 81, 82, 83, 84, 85, 86, 87, 88, 89, 90, 91, 92, 93, 94, 95, 96, 97, 98, 99, 100, 101, 102, 103, 104, 105, 106, 107, 108, 109, 110, 111, 112, 113, 114, 115, 116, 117, 118, 119, 120, 121, 122, 123, 124, 125, 126, 127, 128, 129, 130, 131, 132, 133, 134, 135, 136, 137, 138, 139, 140, 141, 142, 143, 144, 145, 146, 147]) [(8, .t (num k))], Go.Ot.look (L)⟩) (fun k => -1 ≤ k ∧ k ≤ 5) (fun k => (5 - k).toNat) ((-1)) (a_le ?_) ?_ ?_
              · refine le_same ?_ ?_ ?_ <;> simp [-List.map_set, -List.map_replicate, -List.reduceReplicate, -List.map_map, -List.map_drop, -List.map_take, num, bol, txt, w8, w16, w32, w64, lst, cls, rowO, boxO, List.take_of_length_le, acT]
              · (first | omega | simp)
              · intro k hk
                refine a_st ?_
                refine k_seq ?_
                refine k_seq ?_
                refine k_region rfl ?_
                refine a_op ?_
                refine a_op ?_
                refine s_nil (r_false ?_)
                refine q_next ?_
                refine a_if (fun hc13 => ?_) (fun hc13 => ?_)
                · (try simp only [Bool.and_eq_true, Bool.or_eq_true, Bool.or_eq_false_iff, Bool.not_eq_true', Bool.not_eq_false', dec_t, dec_f, Bool.and_eq_false_imp, beq_iff_eq, beq_eq_false_iff_ne, ne_eq] at hc13)
                  refine k_skip ?_
                  refine q_next ?_
                  refine k_seq ?_
                  refine k_block ?_
                  refine k_seq ?_
                  refine k_region rfl ?_
                  skip
                  refine a_op ?_
                  refine a_op ?_
                  refine a_callp [.r 3 1 0, .r 16 11 0] [] [.r 16 11 0] false (rd_dnR Γ hE s l hl h4 cr ct k) ?_
                  iterate 5 refine a_op ?_
                  refine s_nil (r_false ?_)
                  refine q_next ?_
                  refine k_seq ?_
                  refine k_region rfl ?_
                  refine a_op ?_
                  refine a_op ?_
                  refine a_callp [.r 3 3 0, .r 16 24 0] [] [.r 16 24 0] false (rrd_dnR Γ s l hl h4 lf k) ?_
                  iterate 5 refine a_op ?_
                  refine s_nil (r_false ?_)
                  refine q_next ?_
                  refine k_seq ?_
                  refine k_region rfl ?_
                  iterate 4 refine a_op ?_
                  refine a_go ?_
                  refine a_callgo [] false (num_good Γ 13) ?_
                  refine a_go ?_
                  refine a_go ?_
                  refine a_op ?_
                  refine s_nil (r_false ?_)
                  refine q_next ?_
                  refine a_false ?_
                  refine k_skip ?_
                  refine q_block (q_next ?_)
                  refine k_region rfl ?_
                  iterate 3 refine a_op ?_
                  refine s_nil (r_false ?_)
                  refine q_loopF ((k + 1)) (a_le ?_) ?_ ?_
                  · refine le_same ?_ ?_ ?_ <;> simp [-List.map_set, -List.map_replicate, -List.reduceReplicate, -List.map_map, -List.map_drop, -List.map_take, num, bol, txt, w8, w16, w32, w64, lst, cls, rowO, boxO, List.take_of_length_le, acT]
                  · (first | omega | (simp_all <;> omega))
                  · (first | omega | (simp only []; omega))
                · (try simp only [Bool.and_eq_true, Bool.or_eq_true, Bool.or_eq_false_iff, Bool.not_eq_true', Bool.not_eq_false', dec_t, dec_f, Bool.and_eq_false_imp, beq_iff_eq, beq_eq_false_iff_ne, ne_eq] at hc13)
                  refine k_exit ?_
                  refine q_seq_exit (q_loopF_exit (q_block_exit (q_next ?_)))
                  refine k_seq ?_
                  refine g_startM (.r 16 11 0) [.r 16 11 0] [] [.r 3 1 0] rfl ?_
                  refine g_op ?_
                  refine g_callp [.r 3 1 0, .r 16 11 0] [] [.r 16 11 0] false (downR Γ s l hl h4 cr ct true) ?_
                  refine g_op ?_
                  refine g_op ?_
                  refine g_op ?_
                  refine g_op ?_
                  refine g_op ?_
                  refine g_op ?_
                  refine g_go ?_
                  refine g_callpgo [.r 3 1 0, .r 16 11 0] [] [.r 16 11 0] false (looseR Γ s l hl h4 cr ct true) ?_
                  refine g_go ?_
                  refine g_go ?_
                  refine g_go ?_
                  refine g_go ?_
                  refine g_go ?_
                  refine g_go ?_
                  refine g_op ?_
                  refine g_nil ⟨g_ok (by kernel_rfl) (by kernel_rfl) (h5 := by simp [-List.map_map, D.has, D.hasL, push_cast] <;> and_intros <;> (rintro a b (⟨ha, hb⟩ | ⟨ha, hb⟩) <;> intros <;> first | contradiction | (rename_i hob; rw [hb] at hob; cases hob; exact hasL_map_t _ _))), ?_⟩
                  refine q_next ?_
                  refine a_false ?_
                  refine k_skip ?_
                  refine q_block (q_next ?_)
                  refine k_region rfl ?_
                  iterate 3 refine a_op ?_
                  refine s_nil (r_false ?_)
                  refine q_loopF ((j + 1, false, true, s, l, cr, ct, lf)) (a_le ?_) ?_ ?_
                  · refine le_same ?_ ?_ ?_ <;> simp [-List.map_set, -List.map_replicate, -List.reduceReplicate, -List.map_map, -List.map_drop, -List.map_take, num, bol, txt, w8, w16, w32, w64, lst, cls, rowO, boxO, List.take_of_length_le, acT]
                  · refine ⟨?_, ?_, ?_, ?_, ?_, ?_, ?_, ?_⟩ <;> (try simp only [List.length_append, List.length_cons, List.length_nil]) <;> first | omega | exact In4_nil | exact In4_snoc h4 hm4 | exact In4_snoc In4_nil hm4 | exact h4 | (intro _; rfl) | (intro _; exact True.intro) | (intro h; cases h)
                  · simp only []; omega
            · refine a_st ?_
              refine k_seq ?_
              refine k_seq ?_
              refine k_region rfl ?_
              refine a_op ?_
              refine s_nil (r_false ?_)
              refine q_next ?_
              refine k_block ?_
              refine k_loopF (fun sl L (k : Int) => ⟨setAll (setBad sl [0, 2, 4, 9, 10, 11, 12, 13, 14, 15, 16, 17, 18, 19, 20, 21, 22, 23, 24, 25, 26, 29, 30, 31, 32, 33, 34, 35, 36, 37, 38, 39, 40, 41, 42, 43, 44, 45, 46, 47, 48, 49, 50, 52, 53, 54, 55, 56, 57, 58, 59, 60, 61, 62, 63, 64, 65, 66, 67, 68, 69, 70, 71, 72, 73, 74, 75, 76, 77, 78, 79, 80, 81, 82, 83, 84, 85, 86, 87, 88, 89, 90, 91, 92, 93, 94, 95, 96, 97, 98, 99, 100, 101, 102, 103, 104, 105, 106, 107, 108, 109, 110, 111, 112, 113, 114, 115, 116, 117, 118, 119, 120, 121, 122, 123, 124, 125, 126, 127, 128, 129, 130, 131, 132, 133, 134, 135, 136, 137, 138, 139, 140, 141, 142, 143, 144, 145, 146, 147]) [(8, .t (num k))], Go.Ot.look (L)⟩) (fun k => -1 ≤ k ∧ k ≤ 5) (fun k => (5 - k).toNat) ((-1)) (a_le ?_) ?_ ?_
              · refine le_same ?_ ?_ ?_ <;> simp [-List.map_set, -List.map_replicate, -List.reduceReplicate, -List.map_map, -List.map_drop, -List.map_take, num, bol, txt, w8, w16, w32, w64, lst, cls, rowO, boxO, List.take_of_length_le, acT]
              · (first | omega | simp)
              · intro k hk
                refine a_st ?_
                refine k_seq ?_
                refine k_seq ?_
                refine k_region rfl ?_
                refine a_op ?_
                refine a_op ?_
                refine s_nil (r_false ?_)
                refine q_next ?_
                refine a_if (fun hc13 => ?_) (fun hc13 => ?_)
                · (try simp only [Bool.and_eq_true, Bool.or_eq_true, Bool.or_eq_false_iff, Bool.not_eq_true', Bool.not_eq_false', dec_t, dec_f, Bool.and_eq_false_imp, beq_iff_eq, beq_eq_false_iff_ne, ne_eq] at hc13)
                  refine k_skip ?_
                  refine q_next ?_
                  refine k_seq ?_
                  refine k_block ?_
                  refine k_seq ?_
                  refine k_region rfl ?_
                  rcases (show (0 ≤ k ∧ k < 4) ∨ (k < 0 ∨ 4 ≤ k) by omega) with hkm | hkm
                  · obtain ⟨m, rfl⟩ : ∃ m : Nat, k = (m : Int) := ⟨k.toNat, by omega⟩
                    have hm4 : m < 4 := by omega
                    refine a_op ?_
                    refine a_op ?_
                    refine a_callp [.r 3 1 0, .r 16 11 0] [] [.r 16 11 0] false (rd_okR Γ s l hl h4 cr ct m hm4) ?_
                    iterate 5 refine a_op ?_
                    refine s_nil (r_false ?_)
                    refine q_next ?_
                    refine k_seq ?_
                    refine k_region rfl ?_
                    refine a_op ?_
                    refine a_op ?_
                    refine a_callp [.r 3 3 0, .r 16 24 0] [] [.r 16 24 0] false (rrd_okR Γ s l hl h4 lf m hm4) ?_
                    iterate 5 refine a_op ?_
                    refine s_nil (r_false ?_)
                    refine q_next ?_
                    refine k_seq ?_
                    refine k_region rfl ?_
                    iterate 4 refine a_op ?_
                    refine a_go ?_
                    refine a_callgo [] false (num_good Γ 0) ?_
                    refine a_go ?_
                    refine a_go ?_
                    refine a_op ?_
                    refine s_nil (r_false ?_)
                    refine q_next ?_
                    refine a_false ?_
                    refine k_skip ?_
                    refine q_block (q_next ?_)
                    refine k_region rfl ?_
                    iterate 3 refine a_op ?_
                    refine s_nil (r_false ?_)
                    refine q_loopF (((m : Int) + 1)) (a_le ?_) ?_ ?_
                    · refine le_same ?_ ?_ ?_ <;> simp [-List.map_set, -List.map_replicate, -List.reduceReplicate, -List.map_map, -List.map_drop, -List.map_take, num, bol, txt, w8, w16, w32, w64, lst, cls, rowO, boxO, List.take_of_length_le, acT]
                    · (first | omega | (simp_all <;> omega))
                    · (first | omega | (simp only []; omega))
                  · skip
                    refine a_op ?_
                    refine a_op ?_
                    refine a_callp [.r 3 1 0, .r 16 11 0] [] [.r 16 11 0] false (rd_argR Γ hE s l hl h4 cr ct k (by omega)) ?_
                    iterate 5 refine a_op ?_
                    refine s_nil (r_false ?_)
                    refine q_next ?_
                    refine k_seq ?_
                    refine k_region rfl ?_
                    refine a_op ?_
                    refine a_op ?_
                    refine a_callp [.r 3 3 0, .r 16 24 0] [] [.r 16 24 0] false (rrd_argR Γ s l hl h4 lf k (by omega)) ?_
                    iterate 5 refine a_op ?_
                    refine s_nil (r_false ?_)
                    refine q_next ?_
                    refine k_seq ?_
                    refine k_region rfl ?_
                    iterate 4 refine a_op ?_
                    refine a_go ?_
                    refine a_callgo [] false (num_good Γ 1) ?_
                    refine a_go ?_
                    refine a_go ?_
                    refine a_op ?_
                    refine s_nil (r_false ?_)
                    refine q_next ?_
                    refine a_false ?_
                    refine k_skip ?_
                    refine q_block (q_next ?_)
                    refine k_region rfl ?_
                    iterate 3 refine a_op ?_
                    refine s_nil (r_false ?_)
                    refine q_loopF ((k + 1)) (a_le ?_) ?_ ?_
                    · refine le_same ?_ ?_ ?_ <;> simp [-List.map_set, -List.map_replicate, -List.reduceReplicate, -List.map_map, -List.map_drop, -List.map_take, num, bol, txt, w8, w16, w32, w64, lst, cls, rowO, boxO, List.take_of_length_le, acT]
                    · (first | omega | (simp_all <;> omega))
                    · (first | omega | (simp only []; omega))
                · (try simp only [Bool.and_eq_true, Bool.or_eq_true, Bool.or_eq_false_iff, Bool.not_eq_true', Bool.not_eq_false', dec_t, dec_f, Bool.and_eq_false_imp, beq_iff_eq, beq_eq_false_iff_ne, ne_eq] at hc13)
                  refine k_exit ?_
                  refine q_seq_exit (q_loopF_exit (q_block_exit (q_next ?_)))
                  refine k_seq ?_
                  refine g_startM (.r 16 11 0) [.r 16 11 0] [] [.r 3 1 0] rfl ?_
                  refine g_op ?_
                  refine g_callp [.r 3 1 0, .r 16 11 0] [] [.r 16 11 0] false (downR Γ s l hl h4 cr ct false) ?_
                  refine g_op ?_
                  refine g_op ?_
                  refine g_op ?_
                  refine g_op ?_
                  refine g_op ?_
                  refine g_op ?_
                  refine g_go ?_
                  refine g_callpgo [.r 3 1 0, .r 16 11 0] [] [.r 16 11 0] false (looseR Γ s l hl h4 cr ct false) ?_
                  refine g_go ?_
                  refine g_go ?_
                  refine g_go ?_
                  refine g_go ?_
                  refine g_go ?_
                  refine g_go ?_
                  refine g_op ?_
                  refine g_nil ⟨g_ok (by kernel_rfl) (by kernel_rfl) (h5 := by simp [-List.map_map, D.has, D.hasL, push_cast] <;> and_intros <;> (rintro a b (⟨ha, hb⟩ | ⟨ha, hb⟩) <;> intros <;> first | contradiction | (rename_i hob; rw [hb] at hob; cases hob; exact hasL_map_t _ _))), ?_⟩
                  refine q_next ?_
                  refine a_false ?_
                  refine k_skip ?_
                  refine q_block (q_next ?_)
                  refine k_region rfl ?_
                  iterate 3 refine a_op ?_
                  refine s_nil (r_false ?_)
                  refine q_loopF ((j + 1, false, false, s, l, cr, ct, lf)) (a_le ?_) ?_ ?_
                  · refine le_same ?_ ?_ ?_ <;> simp [-List.map_set, -List.map_replicate, -List.reduceReplicate, -List.map_map, -List.map_drop, -List.map_take, num, bol, txt, w8, w16, w32, w64, lst, cls, rowO, boxO, List.take_of_length_le, acT]
                  · refine ⟨?_, ?_, ?_, ?_, ?_, ?_, ?_, ?_⟩ <;> (try simp only [List.length_append, List.length_cons, List.length_nil]) <;> first | omega | exact In4_nil | exact In4_snoc h4 hm4 | exact In4_snoc In4_nil hm4 | exact h4 | (intro _; rfl) | (intro _; exact True.intro) | (intro h; cases h)
                  · simp only []; omega
      · (try simp only [Bool.and_eq_true, Bool.or_eq_true, Bool.or_eq_false_iff, Bool.not_eq_true', Bool.not_eq_false', dec_t, dec_f, Bool.and_eq_false_imp, beq_iff_eq, beq_eq_false_iff_ne, ne_eq] at hc2)
        refine k_exit ?_
        refine q_seq_exit (q_loopF_exit (q_block_exit (q_next ?_)))
        refine k_seq ?_
        refine k_region rfl ?_
        refine a_call [] false (awake_good Γ hE) ?_
        refine a_op ?_
        refine s_nil (r_false ?_)
        refine q_next ?_
        refine k_ret ?_
        refine ⟨.inr rfl, a_ret [] (by rw [results5]) ?_ ?_ ?_⟩ <;> simp [-List.map_set, -List.map_replicate, -List.reduceReplicate, -List.map_map, -List.map_drop, -List.map_take, num, bol, txt, w8, w16, w32, w64, lst, cls, rowO, boxO, List.take_of_length_le, acT]

end Go.Proofs.Tryd
