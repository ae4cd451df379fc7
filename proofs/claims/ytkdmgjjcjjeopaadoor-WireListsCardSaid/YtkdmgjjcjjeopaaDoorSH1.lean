/- Contracts of this program's functions. -/
import Derived.Test.YtkdmgjjcjjeopaaDoorSH0
import Derived.Test.YtkdmgjjcjjeopaaDoorSL1
set_option maxHeartbeats 4000000
set_option maxRecDepth 100000
set_option linter.unusedVariables false
set_option linter.unusedSimpArgs false
namespace Go.Proofs.Tryd
open Go Go.Ot
attribute [local irreducible] wpK wpS seqK blockK loopF regK meetK OpSpec Le rdS lpW rdW got mayS mayW ixF putS putW nb nbS u64 fmT PutW sameW sameL manyS manyN mfold nest nestS base numsW txtsW tsz
theorem lists_good (Γ : Gl) (hE : EG Γ) (ns : List UInt8) (l : List (List UInt8)) : Go.Ot.Good Γ prog 7 [.t (lst w8 ns), .t (lst txt l)] [] (.t (bol true)) [] [] := by
  refine a_body F.mix func7 (by rfl) ntmps7 ?_
  refine k_seq ?_
  refine k_region rfl ?_
  refine a_op ?_
  refine s_nil (r_false ?_)
  refine q_next ?_
  refine k_seq ?_
  refine k_seq ?_
  refine k_region rfl ?_
  have h3 : 40 < ns.length ∨ (ns.length ≤ 40 ∧ 30 < l.length) ∨ (ns.length ≤ 40 ∧ l.length ≤ 30) := by omega
  rcases h3 with ha | ⟨ha, hb⟩ | ⟨ha, hb⟩
  · skip
    iterate 4 refine a_op ?_
    refine a_no ?_
    refine a_no ?_
    refine a_no ?_
    refine a_op ?_
    refine s_nil (r_false ?_)
    refine q_next ?_
    refine a_true ?_
    refine k_seq ?_
    refine k_region rfl ?_
    refine a_call [] false (awake_good Γ hE) ?_
    refine a_op ?_
    refine s_nil (r_false ?_)
    refine q_next ?_
    refine k_ret ?_
    refine q_seq_ret ?_
    refine ⟨.inr rfl, a_ret [] (by rw [results7]) ?_ ?_ ?_⟩ <;> simp [-List.map_set, -List.map_replicate, -List.reduceReplicate, -List.map_map, -List.map_drop, -List.map_take, num, bol, txt, w8, w16, w32, w64, lst, cls, rowO, boxO, List.take_of_length_le, Wr.cellsL_len, wA, Wr.k_mk, Wr.n_mk, Wr.s_mk, Wr.l_mk, Wr.cellsL, Wr.z_eq]
  · skip
    iterate 4 refine a_op ?_
    refine a_go ?_
    refine a_go ?_
    refine a_go ?_
    refine a_op ?_
    refine s_nil (r_false ?_)
    refine q_next ?_
    refine a_true ?_
    refine k_seq ?_
    refine k_region rfl ?_
    refine a_call [] false (awake_good Γ hE) ?_
    refine a_op ?_
    refine s_nil (r_false ?_)
    refine q_next ?_
    refine k_ret ?_
    refine q_seq_ret ?_
    refine ⟨.inr rfl, a_ret [] (by rw [results7]) ?_ ?_ ?_⟩ <;> simp [-List.map_set, -List.map_replicate, -List.reduceReplicate, -List.map_map, -List.map_drop, -List.map_take, num, bol, txt, w8, w16, w32, w64, lst, cls, rowO, boxO, List.take_of_length_le, Wr.cellsL_len, wA, Wr.k_mk, Wr.n_mk, Wr.s_mk, Wr.l_mk, Wr.cellsL, Wr.z_eq]
  · skip
    iterate 4 refine a_op ?_
    refine a_go ?_
    refine a_go ?_
    refine a_go ?_
    refine a_op ?_
    refine s_nil (r_false ?_)
    refine q_next ?_
    refine a_false ?_
    refine k_skip ?_
    refine q_next ?_
    refine k_seq ?_
    refine k_region rfl ?_
    refine a_op ?_
    refine s_nil (r_false ?_)
    refine q_next ?_
    refine k_seq ?_
    refine k_region rfl ?_
    refine a_op ?_
    refine s_nil (r_false ?_)
    refine q_next ?_
    refine k_seq ?_
    refine k_seq ?_
    refine k_region rfl ?_
    refine a_op ?_
    refine s_nil (r_false ?_)
    refine q_next ?_
    refine k_block ?_
    refine k_loopF (fun sl L (i : Nat) => ⟨setAll (setBad sl [12, 13, 14, 15, 16, 17, 18, 19, 20, 21, 22, 23, 24, 25, 26, 27, 28, 29, 30, 31, 32, 33, 34, 35, 36, 37]) [(5, .msl (.n 9) 0 i 4), (6, .t (num ((5 : Int) + 9 * i))), (7, .t (num i))], Go.Ot.look (putL (.n 9) (rowW (numsW (ns.take i))) L)⟩) (fun i => i ≤ ns.length) (fun i => ns.length - i) (0) (a_le ?_) ?_ ?_
    · refine le_of [] ?_ ?_ ?_ <;> simp [-List.map_set, -List.map_replicate, -List.reduceReplicate, -List.map_map, -List.map_drop, -List.map_take, num, bol, txt, w8, w16, w32, w64, lst, cls, rowO, boxO, List.take_of_length_le, Wr.cellsL_len, wA, Wr.k_mk, Wr.n_mk, Wr.s_mk, Wr.l_mk, Wr.cellsL, Wr.z_eq, rowW, numsW_nil] <;> (try omega)
    · (first | omega | simp)
    · intro i hi
      refine a_st ?_
      refine k_seq ?_
      refine k_seq ?_
      refine k_region rfl ?_
      iterate 4 refine a_op ?_
      refine s_nil (r_false ?_)
      refine q_next ?_
      refine a_if (fun hc1 => ?_) (fun hc1 => ?_)
      · (try simp only [Bool.and_eq_true, Bool.or_eq_true, Bool.or_eq_false_iff, Bool.not_eq_true', Bool.not_eq_false', dec_t, dec_f, Bool.and_eq_false_imp, beq_iff_eq, beq_eq_false_iff_ne, ne_eq] at hc1)
        refine k_skip ?_
        refine q_next ?_
        refine k_seq ?_
        refine k_block ?_
        refine k_seq ?_
        refine k_region rfl ?_
        have hn8 := UInt8.toNat_lt (ns.getD i 0)
        iterate 6 refine a_op ?_
        refine a_call [] false (Num_good Γ (ns.getD i 0).toNat) ?_
        iterate 3 refine a_op ?_
        refine s_nil (r_false ?_)
        refine q_next ?_
        refine k_region rfl ?_
        iterate 3 refine a_op ?_
        refine s_nil (r_false ?_)
        refine q_block (q_next ?_)
        refine k_region rfl ?_
        iterate 3 refine a_op ?_
        refine s_nil (r_false ?_)
        have hil : i < ns.length := by omega
        refine q_loopF (i + 1) (a_le ?_) ?_ ?_
        · refine le_of [(.n 9, .n 9)] ?_ ?_ ?_ <;> simp [-List.map_set, -List.map_replicate, -List.reduceReplicate, -List.map_map, -List.map_drop, -List.map_take, num, bol, txt, w8, w16, w32, w64, lst, cls, rowO, boxO, List.take_of_length_le, Wr.cellsL_len, wA, Wr.k_mk, Wr.n_mk, Wr.s_mk, Wr.l_mk, Wr.cellsL, Wr.z_eq, rowW, numsW_next hil, cells_app, wC] <;> (try omega)
        · (first | omega | (simp_all <;> omega))
        · (first | omega | (simp only []; omega))
      · (try simp only [Bool.and_eq_true, Bool.or_eq_true, Bool.or_eq_false_iff, Bool.not_eq_true', Bool.not_eq_false', dec_t, dec_f, Bool.and_eq_false_imp, beq_iff_eq, beq_eq_false_iff_ne, ne_eq] at hc1)
        refine k_exit ?_
        refine q_seq_exit (q_loopF_exit (q_block_exit (q_next ?_)))
        refine k_seq ?_
        refine k_seq ?_
        refine k_region rfl ?_
        obtain rfl : i = ns.length := by omega
        refine a_op ?_
        refine s_nil (r_false ?_)
        refine q_next ?_
        refine k_block ?_
        refine k_loopF (fun sl L (j : Nat) => ⟨setAll (setBad sl [4, 7, 12, 13, 14, 15, 16, 17, 18, 19, 20, 21, 22, 23, 24, 25, 26, 27, 28, 29, 30, 31, 32, 33, 34, 35, 36, 37, 38, 39, 40, 41, 42, 43, 44, 45, 46, 47, 48, 49, 50, 51, 52, 53, 54, 55, 56, 57, 58, 59, 60, 61, 62, 63, 64, 65, 66]) [(5, .msl (.n 9) 0 (ns.length + j) 4), (6, .t (num ((5 : Int) + 9 * ns.length + (tsz (l.take j) : Nat)))), (8, .t (num j))], Go.Ot.look (putL (.n 9) (rowW (numsW ns ++ txtsW (l.take j))) L)⟩) (fun j => j ≤ l.length ∧ ∀ s ∈ l.take j, s.length ≤ 100) (fun j => l.length - j) (0) (a_le ?_) ?_ ?_
        · refine le_of [(.n 9, .n 9)] ?_ ?_ ?_ <;> simp [-List.map_set, -List.map_replicate, -List.reduceReplicate, -List.map_map, -List.map_drop, -List.map_take, num, bol, txt, w8, w16, w32, w64, lst, cls, rowO, boxO, List.take_of_length_le, Wr.cellsL_len, wA, Wr.k_mk, Wr.n_mk, Wr.s_mk, Wr.l_mk, Wr.cellsL, Wr.z_eq, rowW, List.take_length, txtsW_nil, tsz_nil] <;> (try omega)
        · exact ⟨by omega, by simp⟩
        · intro j hj
          have htj := tsz_le hj.2
          have htl : (l.take j).length ≤ 30 := by rw [List.length_take]; omega
          refine a_st ?_
          refine k_seq ?_
          refine k_seq ?_
          refine k_region rfl ?_
          iterate 4 refine a_op ?_
          refine s_nil (r_false ?_)
          refine q_next ?_
          refine a_if (fun hc2 => ?_) (fun hc2 => ?_)
          · (try simp only [Bool.and_eq_true, Bool.or_eq_true, Bool.or_eq_false_iff, Bool.not_eq_true', Bool.not_eq_false', dec_t, dec_f, Bool.and_eq_false_imp, beq_iff_eq, beq_eq_false_iff_ne, ne_eq] at hc2)
            refine k_skip ?_
            refine q_next ?_
            refine k_seq ?_
            refine k_block ?_
            refine k_seq ?_
            refine k_seq ?_
            refine k_region rfl ?_
            iterate 6 refine a_op ?_
            refine s_nil (r_false ?_)
            refine q_next ?_
            refine a_if (fun hc3 => ?_) (fun hc3 => ?_)
            · (try simp only [Bool.and_eq_true, Bool.or_eq_true, Bool.or_eq_false_iff, Bool.not_eq_true', Bool.not_eq_false', dec_t, dec_f, Bool.and_eq_false_imp, beq_iff_eq, beq_eq_false_iff_ne, ne_eq] at hc3)
              refine k_seq ?_
              refine k_region rfl ?_
              refine a_call [] false (awake_good Γ hE) ?_
              refine a_op ?_
              refine s_nil (r_false ?_)
              refine q_next ?_
              refine k_ret ?_
              refine q_seq_ret (q_block_ret (q_seq_ret (q_loopF_ret (q_block_ret (q_seq_ret ?_)))))
              refine ⟨.inr rfl, a_ret [] (by rw [results7]) ?_ ?_ ?_⟩ <;> simp [-List.map_set, -List.map_replicate, -List.reduceReplicate, -List.map_map, -List.map_drop, -List.map_take, num, bol, txt, w8, w16, w32, w64, lst, cls, rowO, boxO, List.take_of_length_le, Wr.cellsL_len, wA, Wr.k_mk, Wr.n_mk, Wr.s_mk, Wr.l_mk, Wr.cellsL, Wr.z_eq]
            · (try simp only [Bool.and_eq_true, Bool.or_eq_true, Bool.or_eq_false_iff, Bool.not_eq_true', Bool.not_eq_false', dec_t, dec_f, Bool.and_eq_false_imp, beq_iff_eq, beq_eq_false_iff_ne, ne_eq] at hc3)
              refine k_skip ?_
              refine q_next ?_
              refine k_seq ?_
              refine k_region rfl ?_
              iterate 5 refine a_op ?_
              refine a_call [] false (Text_good Γ (l.getD j [])) ?_
              iterate 3 refine a_op ?_
              refine s_nil (r_false ?_)
              refine q_next ?_
              refine k_region rfl ?_
              iterate 9 refine a_op ?_
              refine s_nil (r_false ?_)
              refine q_block (q_next ?_)
              refine k_region rfl ?_
              iterate 3 refine a_op ?_
              refine s_nil (r_false ?_)
              have hjl : j < l.length := by omega
              refine q_loopF (j + 1) (a_le ?_) ?_ ?_
              · refine le_of [(.n 9, .n 9)] ?_ ?_ ?_ <;> simp [-List.map_set, -List.map_replicate, -List.reduceReplicate, -List.map_map, -List.map_drop, -List.map_take, num, bol, txt, w8, w16, w32, w64, lst, cls, rowO, boxO, List.take_of_length_le, Wr.cellsL_len, wA, Wr.k_mk, Wr.n_mk, Wr.s_mk, Wr.l_mk, Wr.cellsL, Wr.z_eq, rowW, txtsW_next hjl, cells_app3, wC, tsz_next hjl] <;> (try omega)
              · exact ⟨by omega, mem_take_next hj.2 (by omega) (by omega)⟩
              · (first | omega | (simp only []; omega))
          · (try simp only [Bool.and_eq_true, Bool.or_eq_true, Bool.or_eq_false_iff, Bool.not_eq_true', Bool.not_eq_false', dec_t, dec_f, Bool.and_eq_false_imp, beq_iff_eq, beq_eq_false_iff_ne, ne_eq] at hc2)
            refine k_exit ?_
            refine q_seq_exit (q_loopF_exit (q_block_exit (q_next ?_)))
            refine k_seq ?_
            refine k_region rfl ?_
            obtain rfl : j = l.length := by omega
            have h100 := hj.2
            rw [List.take_length] at h100
            have hmay := all_may ha hb h100
            have hlen := all_len ha hb h100
            have htz := tsz_le h100
            have hgot := got_PutW hmay all_rng
            have hsz : Wr.szL (numsW ns ++ txtsW l) = ns.length + l.length := by rw [szL_app, szL_nums, szL_txts]
            have hsw : (allW ns l).sz ≤ 1000 := by simp only [allW, Wr.sz]; omega
            simp only [allW] at hmay hlen hgot hsw
            refine a_op ?_
            refine a_call [.n 9] true (List_good Γ (numsW ns ++ txtsW l) (by omega)) ?_ (hv := by (simp (disch := first | omega | (simp only [List.length_drop, List.length_take, List.length_map, List.length_append, List.length_cons, List.length_nil, List.length_replicate, List.length_set] <;> omega) | fail) [-List.map_map, -List.map_drop, -List.map_take, VwL_cons, VwL_nil, Vw_bad, Vw_t, Vw_ptr, Vw_msl, Vw_rop, Vw_agg, Vw_tup, Vw_ifc, VwT_refl, VwL_refl_map, Vw_nilmsl, VwT_msl, VwT_agg, VwT_v, VwT_nil, VwTs_cons, VwTs_nil, VwTs_refl, VwTs_app, List.take_of_length_le, srcL, notIn, ObsVw, SrcOk, pOk, Go.Ot.look, resP, resN, ev, evc, mkS, push_cast, List.take_of_length_le, cells_allNT, numsW_len, txtsW_len] <;> (try omega)))
            refine a_call [] false (Put_good Γ (.mk 3 0 [] (numsW ns ++ txtsW l)) (put_imp (by omega))) ?_
            refine a_op ?_
            refine s_nil (r_false ?_)
            refine q_next ?_
            refine k_seq ?_
            refine k_region rfl ?_
            refine a_op ?_
            refine a_call [] true ((by have h := Get_good Γ hE (PutW (.mk 3 0 [] (numsW ns ++ txtsW l))) (by omega); rw [hgot, Option.getD_some, Option.isSome_some] at h; exact h)) ?_
            iterate 6 refine a_op ?_
            refine s_nil (r_false ?_)
            refine q_next ?_
            refine k_seq ?_
            refine k_region rfl ?_
            refine a_op ?_
            refine a_op ?_
            refine a_go ?_
            refine a_go ?_
            refine a_go ?_
            refine a_go ?_
            refine a_op ?_
            refine a_op ?_
            refine a_go ?_
            refine a_go ?_
            refine a_go ?_
            refine a_go ?_
            refine a_go ?_
            refine a_go ?_
            refine a_go ?_
            refine a_go ?_
            refine a_go ?_
            refine a_op ?_
            refine a_op ?_
            refine a_go ?_
            refine a_go ?_
            refine a_go ?_
            refine a_callgo [.n 9] true ((by have h := sameR_good Γ 1000000 (.mk 3 0 [] (numsW ns ++ txtsW l)) (.mk 3 0 [] (numsW ns ++ txtsW l)) (by omega) (by omega) (by omega); rw [sameW_self] at h; exact h)) ?_ (hv := by (simp (disch := first | omega | (simp only [List.length_drop, List.length_take, List.length_map, List.length_append, List.length_cons, List.length_nil, List.length_replicate, List.length_set] <;> omega) | fail) [-List.map_map, -List.map_drop, -List.map_take, VwL_cons, VwL_nil, Vw_bad, Vw_t, Vw_ptr, Vw_msl, Vw_rop, Vw_agg, Vw_tup, Vw_ifc, VwT_refl, VwL_refl_map, Vw_nilmsl, VwT_msl, VwT_agg, VwT_v, VwT_nil, VwTs_cons, VwTs_nil, VwTs_refl, VwTs_app, List.take_of_length_le, srcL, notIn, ObsVw, SrcOk, pOk, Go.Ot.look, resP, resN, ev, evc, mkS, push_cast, List.take_of_length_le, cells_allNT, numsW_len, txtsW_len] <;> (try omega)))
            refine a_op ?_
            refine a_op ?_
            refine a_callgo [] false (awake_good Γ hE) ?_
            refine a_op ?_
            refine a_op ?_
            refine s_nil (r_false ?_)
            refine q_next ?_
            refine k_ret ?_
            refine ⟨.inr rfl, a_ret [] (by rw [results7]) ?_ ?_ ?_⟩ <;> simp [-List.map_set, -List.map_replicate, -List.reduceReplicate, -List.map_map, -List.map_drop, -List.map_take, num, bol, txt, w8, w16, w32, w64, lst, cls, rowO, boxO, List.take_of_length_le, Wr.cellsL_len, wA, Wr.k_mk, Wr.n_mk, Wr.s_mk, Wr.l_mk, Wr.cellsL, Wr.z_eq]

end Go.Proofs.Tryd
