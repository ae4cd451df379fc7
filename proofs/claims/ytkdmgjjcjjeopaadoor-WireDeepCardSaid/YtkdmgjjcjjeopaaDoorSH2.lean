/- Contracts of this program's functions. -/
import Derived.Test.YtkdmgjjcjjeopaaDoorSH0
import Derived.Test.YtkdmgjjcjjeopaaDoorSL1
set_option maxHeartbeats 4000000
set_option maxRecDepth 100000
set_option linter.unusedVariables false
set_option linter.unusedSimpArgs false
namespace Go.Proofs.Tryd
open Go Go.Ot
attribute [local irreducible] wpK wpS seqK blockK loopF regK meetK OpSpec Le rdS lpW rdW got mayS mayW ixF putS putW nb nbS u64 fmT PutW sameW sameL manyS manyN mfold nest nestS
theorem deep0_good (Γ : Gl) (hE : EG Γ) (n kind : UInt8) (hj : kind.toNat % 3 = 0) : Go.Ot.Good Γ prog 5 [.t (w8 n), .t (w8 kind)] [] (.t (bol true)) [] [] := by
  refine a_body F.mix func5 (by rfl) ntmps5 ?_
  refine k_seq ?_
  refine k_region rfl ?_
  refine a_op ?_
  refine s_nil (r_false ?_)
  refine q_next ?_
  refine k_seq ?_
  refine k_region rfl ?_
  obtain ⟨K, hK⟩ : ∃ K, n.toNat % 12 = K := ⟨_, rfl⟩
  have hK12 : K < 12 := by rw [← hK]; exact Nat.mod_lt _ (by omega)
  have hK' : (n.toNat : Int) % 12 = (K : Int) := by omega
  have hj' : (kind.toNat : Int) % 3 = 0 := by omega
  have hn8 := UInt8.toNat_lt n
  have hk8 := UInt8.toNat_lt kind
  have hb1 : (Wr.sz (.mk 1 5 [] [])) = 1 := base_sz 0 (by omega)
  have hbl : (PutW (.mk 1 5 [] [])).length ≤ 20 := base_len 0 (by omega)
  refine a_op ?_
  refine a_op ?_
  refine a_op (hs := by (simp (disch := first | omega | (simp only [List.length_drop, List.length_take, List.length_map, List.length_append, List.length_cons, List.length_nil, List.length_replicate, List.length_set] <;> omega) | (simp only [push_cast] <;> omega) | fail) only [push_cast, reduceCtorEq, Nat.reduceAdd, Nat.reduceSub, Nat.reduceMul, Nat.reduceEqDiff, Nat.reduceLT, Nat.reduceLeDiff, Nat.reduceMod, Nat.reduceDiv, Int.reduceLE, Int.reduceLT, Int.reduceEq, Int.reduceToNat, Int.reduceAdd, Int.reduceSub, Int.reduceMul, Int.reduceNeg, hK'] <;> rfl)) ?_
  refine a_op ?_
  refine s_nil (r_false ?_)
  refine q_next ?_
  refine k_seq ?_
  refine k_region rfl ?_
  refine a_call [] false (Num_good Γ 5) ?_
  refine a_call [] false (Text_good Γ [116]) ?_
  refine a_call [] true (List_good Γ [] (by decide)) ?_
  refine a_op ?_
  refine a_op ?_
  refine a_op (hs := by (simp (disch := first | omega | (simp only [List.length_drop, List.length_take, List.length_map, List.length_append, List.length_cons, List.length_nil, List.length_replicate, List.length_set] <;> omega) | (simp only [push_cast] <;> omega) | fail) only [push_cast, reduceCtorEq, Nat.reduceAdd, Nat.reduceSub, Nat.reduceMul, Nat.reduceEqDiff, Nat.reduceLT, Nat.reduceLeDiff, Nat.reduceMod, Nat.reduceDiv, Int.reduceLE, Int.reduceLT, Int.reduceEq, Int.reduceToNat, Int.reduceAdd, Int.reduceSub, Int.reduceMul, Int.reduceNeg, hj'] <;> rfl)) ?_
  iterate 4 refine a_op ?_
  refine s_nil (r_false ?_)
  refine q_next ?_
  refine k_seq ?_
  refine k_region rfl ?_
  refine a_op ?_
  refine a_call [] false (Put_good Γ (.mk 1 5 [] []) (put_imp (by omega))) ?_
  refine a_op ?_
  refine s_nil (r_false ?_)
  refine q_next ?_
  refine k_seq ?_
  refine k_seq ?_
  refine k_region rfl ?_
  refine a_op ?_
  refine s_nil (r_false ?_)
  refine q_next ?_
  refine k_block ?_
  refine k_loopF (fun sl L (i : Nat) => ⟨setAll (setBad sl [0, 11, 12, 13, 14, 15, 16, 17, 18, 19, 20, 21, 22, 23, 24, 25, 26, 27, 28, 29, 30, 31, 32, 33]) [(7, .t (txt (nestS i (PutW (.mk 1 5 [] []))))), (8, .t (num i))], Go.Ot.look (putL (.r 2 8 0) (boxO 25 (wC (nest i (.mk 1 5 [] [])))) L)⟩) (fun i => i ≤ K) (fun i => K - i) (0) (a_le ?_) ?_ ?_
  · refine le_of [(.r 2 3 0, .r 2 3 0), (.r 2 8 0, .r 2 8 0)] ?_ ?_ ?_ <;> simp [-List.map_set, -List.map_replicate, -List.reduceReplicate, -List.map_map, -List.map_drop, -List.map_take, num, bol, txt, w8, w16, w32, w64, lst, cls, rowO, boxO, List.take_of_length_le, Wr.cellsL_len, wA, Wr.k_mk, Wr.n_mk, Wr.s_mk, Wr.l_mk, Wr.cellsL, Wr.z_eq, wC, nest_z, nestS_z]
  · (first | omega | simp)
  · intro i hi
    have hnl := nestS_len i (PutW (.mk 1 5 [] []))
    refine a_st ?_
    refine k_seq ?_
    refine k_seq ?_
    refine k_region rfl ?_
    iterate 3 refine a_op ?_
    refine s_nil (r_false ?_)
    refine q_next ?_
    refine a_if (fun hc0 => ?_) (fun hc0 => ?_)
    · (try simp only [Bool.and_eq_true, Bool.or_eq_true, Bool.or_eq_false_iff, Bool.not_eq_true', Bool.not_eq_false', dec_t, dec_f, Bool.and_eq_false_imp, beq_iff_eq, beq_eq_false_iff_ne, ne_eq] at hc0)
      refine k_skip ?_
      refine q_next ?_
      refine k_seq ?_
      refine k_block ?_
      refine k_seq ?_
      refine k_region rfl ?_
      refine a_op ?_
      refine a_op ?_
      refine a_call [.r 7 1 0] true (List_good Γ [nest i (.mk 1 5 [] [])] (by have := nest_sz i (.mk 1 5 [] []); simp only [Wr.szL]; omega)) ?_ (hv := by (simp (disch := first | omega | (simp only [List.length_drop, List.length_take, List.length_map, List.length_append, List.length_cons, List.length_nil, List.length_replicate, List.length_set] <;> omega) | fail) [-List.map_map, -List.map_drop, -List.map_take, VwL_cons, VwL_nil, Vw_bad, Vw_t, Vw_ptr, Vw_msl, Vw_rop, Vw_agg, Vw_tup, Vw_ifc, VwT_refl, VwL_refl_map, Vw_nilmsl, VwT_msl, VwT_agg, VwT_v, VwT_nil, VwTs_cons, VwTs_nil, VwTs_refl, VwTs_app, List.take_of_length_le, srcL, notIn, ObsVw, SrcOk, pOk, Go.Ot.look, resP, resN, ev, evc, mkS, push_cast, List.take_of_length_le, cellsL_one] <;> (try omega)))
      refine a_op ?_
      refine s_nil (r_false ?_)
      refine q_next ?_
      refine k_region rfl ?_
      iterate 3 refine a_op ?_
      refine s_nil (r_false ?_)
      refine q_block (q_next ?_)
      refine k_region rfl ?_
      iterate 3 refine a_op ?_
      refine s_nil (r_false ?_)
      refine q_loopF (i + 1) (a_le ?_) ?_ ?_
      · refine le_of [(.r 2 3 0, .r 2 3 0), (.r 2 8 0, .r 2 8 0)] ?_ ?_ ?_ <;> simp [-List.map_set, -List.map_replicate, -List.reduceReplicate, -List.map_map, -List.map_drop, -List.map_take, num, bol, txt, w8, w16, w32, w64, lst, cls, rowO, boxO, List.take_of_length_le, Wr.cellsL_len, wA, Wr.k_mk, Wr.n_mk, Wr.s_mk, Wr.l_mk, Wr.cellsL, Wr.z_eq, wC, nest_s, nestS_s]
      · (first | omega | (simp_all <;> omega))
      · (first | omega | (simp only []; omega))
    · (try simp only [Bool.and_eq_true, Bool.or_eq_true, Bool.or_eq_false_iff, Bool.not_eq_true', Bool.not_eq_false', dec_t, dec_f, Bool.and_eq_false_imp, beq_iff_eq, beq_eq_false_iff_ne, ne_eq] at hc0)
      refine k_exit ?_
      refine q_seq_exit (q_loopF_exit (q_block_exit (q_next ?_)))
      refine k_seq ?_
      refine k_seq ?_
      refine k_region rfl ?_
      have hiK : i = K := by omega
      subst hiK
      have hnz := nest_sz i (.mk 1 5 [] [])
      have hnl := nestS_len i (PutW (.mk 1 5 [] []))
      refine a_op ?_
      refine a_op (hs := by (simp (disch := first | omega | (simp only [List.length_drop, List.length_take, List.length_map, List.length_append, List.length_cons, List.length_nil, List.length_replicate, List.length_set] <;> omega) | (simp only [push_cast] <;> omega) | fail) only [push_cast, reduceCtorEq, Nat.reduceAdd, Nat.reduceSub, Nat.reduceMul, Nat.reduceEqDiff, Nat.reduceLT, Nat.reduceLeDiff, Nat.reduceMod, Nat.reduceDiv, Int.reduceLE, Int.reduceLT, Int.reduceEq, Int.reduceToNat, Int.reduceAdd, Int.reduceSub, Int.reduceMul, Int.reduceNeg, hj'] <;> rfl)) ?_
      refine a_op ?_
      refine s_nil (r_false ?_)
      refine q_next ?_
      refine a_false ?_
      refine k_skip ?_
      refine q_next ?_
      refine k_seq ?_
      refine k_region rfl ?_
      rcases Nat.lt_or_ge 6 (i + 0) with h6 | h6
      · skip
        refine a_op ?_
        have hgg := (deep_no (j := 0) (k := i) (by omega) hK12 (by simp; omega)).2
        have hgd := Get_good Γ hE (nestS i (PutW (.mk 1 5 [] []))) (by omega)
        rw [show got (nestS i (PutW (.mk 1 5 [] []))) = none from hgg, Option.getD_none, Option.isSome_none] at hgd
        refine a_call [] true hgd ?_
        iterate 6 refine a_op ?_
        refine s_nil (r_false ?_)
        refine q_next ?_
        refine k_seq ?_
        refine k_seq ?_
        refine k_region rfl ?_
        refine a_op ?_
        refine a_op ?_
        refine s_nil (r_false ?_)
        refine q_next ?_
        refine a_true ?_
        refine k_seq ?_
        refine k_region rfl ?_
        obtain ⟨hm, hg⟩ : mayW 6 (nest i (.mk 1 5 [] [])) = false ∧ got (nestS i (PutW (.mk 1 5 [] []))) = none := deep_no (j := 0) (k := i) (by omega) hK12 (by simp; omega)
        refine a_op ?_
        refine a_call [] false ((by have h := May_good Γ (nest i (.mk 1 5 [] [])); rw [hm] at h; exact h)) ?_
        refine a_op ?_
        refine a_op ?_
        refine a_go ?_
        refine a_callgo [] false ((by have h := Put_good Γ (nest i (.mk 1 5 [] [])) (fun h => by rw [hm] at h; cases h); rw [PutW_f hm] at h; exact h)) ?_
        refine a_go ?_
        refine a_op ?_
        refine a_op ?_
        refine a_go ?_
        refine a_go ?_
        refine a_op ?_
        refine a_op ?_
        refine a_callgo [] false (awake_good Γ hE) ?_
        refine a_op ?_
        refine a_op ?_
        refine s_nil (r_false ?_)
        refine q_next ?_
        refine k_ret ?_
        refine q_seq_ret ?_
        refine ⟨.inr rfl, a_ret [] (by rw [results5]) ?_ ?_ ?_⟩ <;> simp [-List.map_set, -List.map_replicate, -List.reduceReplicate, -List.map_map, -List.map_drop, -List.map_take, num, bol, txt, w8, w16, w32, w64, lst, cls, rowO, boxO, List.take_of_length_le, Wr.cellsL_len, wA, Wr.k_mk, Wr.n_mk, Wr.s_mk, Wr.l_mk, Wr.cellsL, Wr.z_eq]
      · skip
        refine a_op ?_
        have hgg := (deep_yes (j := 0) (k := i) (by omega) hK12 (by simp; omega)).2.2
        have hgd := Get_good Γ hE (nestS i (PutW (.mk 1 5 [] []))) (by omega)
        rw [show got (nestS i (PutW (.mk 1 5 [] []))) = some (nest i (.mk 1 5 [] [])) from hgg, Option.getD_some, Option.isSome_some] at hgd
        refine a_call [] true hgd ?_
        iterate 6 refine a_op ?_
        refine s_nil (r_false ?_)
        refine q_next ?_
        refine k_seq ?_
        refine k_seq ?_
        refine k_region rfl ?_
        refine a_op ?_
        refine a_op ?_
        refine s_nil (r_false ?_)
        refine q_next ?_
        refine a_false ?_
        refine k_skip ?_
        refine q_next ?_
        refine k_seq ?_
        refine k_region rfl ?_
        obtain ⟨hm, hp, hg⟩ : mayW 6 (nest i (.mk 1 5 [] [])) = true ∧ PutW (nest i (.mk 1 5 [] [])) = (nestS i (PutW (.mk 1 5 [] []))) ∧ got (nestS i (PutW (.mk 1 5 [] []))) = some (nest i (.mk 1 5 [] [])) := deep_yes (j := 0) (k := i) (by omega) hK12 (by simp; omega)
        refine a_op ?_
        refine a_call [] false ((by have h := May_good Γ (nest i (.mk 1 5 [] [])); rw [hm] at h; exact h)) ?_
        refine a_op ?_
        refine a_go ?_
        refine a_callgo [] false ((by have h := Put_good Γ (nest i (.mk 1 5 [] [])) (put_imp (by rw [hp]; omega)); rw [hp] at h; exact h)) ?_
        refine a_go ?_
        refine a_go ?_
        refine a_op ?_
        refine a_op ?_
        refine a_go ?_
        refine a_op ?_
        refine a_op ?_
        refine a_go ?_
        refine a_go ?_
        refine a_callgo [] false ((by have h := sameR_good Γ 1000000 (nest i (.mk 1 5 [] [])) (nest i (.mk 1 5 [] [])) (by omega) (by omega) (by omega); rw [sameW_self] at h; exact h)) ?_
        refine a_op ?_
        refine a_op ?_
        refine a_callgo [] false (awake_good Γ hE) ?_
        refine a_op ?_
        refine a_op ?_
        refine s_nil (r_false ?_)
        refine q_next ?_
        refine k_ret ?_
        refine ⟨.inr rfl, a_ret [] (by rw [results5]) ?_ ?_ ?_⟩ <;> simp [-List.map_set, -List.map_replicate, -List.reduceReplicate, -List.map_map, -List.map_drop, -List.map_take, num, bol, txt, w8, w16, w32, w64, lst, cls, rowO, boxO, List.take_of_length_le, Wr.cellsL_len, wA, Wr.k_mk, Wr.n_mk, Wr.s_mk, Wr.l_mk, Wr.cellsL, Wr.z_eq]

theorem deep1_good (Γ : Gl) (hE : EG Γ) (n kind : UInt8) (hj : kind.toNat % 3 = 1) : Go.Ot.Good Γ prog 5 [.t (w8 n), .t (w8 kind)] [] (.t (bol true)) [] [] := by
  refine a_body F.mix func5 (by rfl) ntmps5 ?_
  refine k_seq ?_
  refine k_region rfl ?_
  refine a_op ?_
  refine s_nil (r_false ?_)
  refine q_next ?_
  refine k_seq ?_
  refine k_region rfl ?_
  obtain ⟨K, hK⟩ : ∃ K, n.toNat % 12 = K := ⟨_, rfl⟩
  have hK12 : K < 12 := by rw [← hK]; exact Nat.mod_lt _ (by omega)
  have hK' : (n.toNat : Int) % 12 = (K : Int) := by omega
  have hj' : (kind.toNat : Int) % 3 = 1 := by omega
  have hn8 := UInt8.toNat_lt n
  have hk8 := UInt8.toNat_lt kind
  have hb1 : (Wr.sz (.mk 2 0 [116] [])) = 1 := base_sz 1 (by omega)
  have hbl : (PutW (.mk 2 0 [116] [])).length ≤ 20 := base_len 1 (by omega)
  refine a_op ?_
  refine a_op ?_
  refine a_op (hs := by (simp (disch := first | omega | (simp only [List.length_drop, List.length_take, List.length_map, List.length_append, List.length_cons, List.length_nil, List.length_replicate, List.length_set] <;> omega) | (simp only [push_cast] <;> omega) | fail) only [push_cast, reduceCtorEq, Nat.reduceAdd, Nat.reduceSub, Nat.reduceMul, Nat.reduceEqDiff, Nat.reduceLT, Nat.reduceLeDiff, Nat.reduceMod, Nat.reduceDiv, Int.reduceLE, Int.reduceLT, Int.reduceEq, Int.reduceToNat, Int.reduceAdd, Int.reduceSub, Int.reduceMul, Int.reduceNeg, hK'] <;> rfl)) ?_
  refine a_op ?_
  refine s_nil (r_false ?_)
  refine q_next ?_
  refine k_seq ?_
  refine k_region rfl ?_
  refine a_call [] false (Num_good Γ 5) ?_
  refine a_call [] false (Text_good Γ [116]) ?_
  refine a_call [] true (List_good Γ [] (by decide)) ?_
  refine a_op ?_
  refine a_op ?_
  refine a_op (hs := by (simp (disch := first | omega | (simp only [List.length_drop, List.length_take, List.length_map, List.length_append, List.length_cons, List.length_nil, List.length_replicate, List.length_set] <;> omega) | (simp only [push_cast] <;> omega) | fail) only [push_cast, reduceCtorEq, Nat.reduceAdd, Nat.reduceSub, Nat.reduceMul, Nat.reduceEqDiff, Nat.reduceLT, Nat.reduceLeDiff, Nat.reduceMod, Nat.reduceDiv, Int.reduceLE, Int.reduceLT, Int.reduceEq, Int.reduceToNat, Int.reduceAdd, Int.reduceSub, Int.reduceMul, Int.reduceNeg, hj'] <;> rfl)) ?_
  iterate 4 refine a_op ?_
  refine s_nil (r_false ?_)
  refine q_next ?_
  refine k_seq ?_
  refine k_region rfl ?_
  refine a_op ?_
  refine a_call [] false (Put_good Γ (.mk 2 0 [116] []) (put_imp (by omega))) ?_
  refine a_op ?_
  refine s_nil (r_false ?_)
  refine q_next ?_
  refine k_seq ?_
  refine k_seq ?_
  refine k_region rfl ?_
  refine a_op ?_
  refine s_nil (r_false ?_)
  refine q_next ?_
  refine k_block ?_
  refine k_loopF (fun sl L (i : Nat) => ⟨setAll (setBad sl [0, 11, 12, 13, 14, 15, 16, 17, 18, 19, 20, 21, 22, 23, 24, 25, 26, 27, 28, 29, 30, 31, 32, 33]) [(7, .t (txt (nestS i (PutW (.mk 2 0 [116] []))))), (8, .t (num i))], Go.Ot.look (putL (.r 2 8 0) (boxO 25 (wC (nest i (.mk 2 0 [116] [])))) L)⟩) (fun i => i ≤ K) (fun i => K - i) (0) (a_le ?_) ?_ ?_
  · refine le_of [(.r 2 3 0, .r 2 3 0), (.r 2 8 0, .r 2 8 0)] ?_ ?_ ?_ <;> simp [-List.map_set, -List.map_replicate, -List.reduceReplicate, -List.map_map, -List.map_drop, -List.map_take, num, bol, txt, w8, w16, w32, w64, lst, cls, rowO, boxO, List.take_of_length_le, Wr.cellsL_len, wA, Wr.k_mk, Wr.n_mk, Wr.s_mk, Wr.l_mk, Wr.cellsL, Wr.z_eq, wC, nest_z, nestS_z]
  · (first | omega | simp)
  · intro i hi
    have hnl := nestS_len i (PutW (.mk 2 0 [116] []))
    refine a_st ?_
    refine k_seq ?_
    refine k_seq ?_
    refine k_region rfl ?_
    iterate 3 refine a_op ?_
    refine s_nil (r_false ?_)
    refine q_next ?_
    refine a_if (fun hc0 => ?_) (fun hc0 => ?_)
    · (try simp only [Bool.and_eq_true, Bool.or_eq_true, Bool.or_eq_false_iff, Bool.not_eq_true', Bool.not_eq_false', dec_t, dec_f, Bool.and_eq_false_imp, beq_iff_eq, beq_eq_false_iff_ne, ne_eq] at hc0)
      refine k_skip ?_
      refine q_next ?_
      refine k_seq ?_
      refine k_block ?_
      refine k_seq ?_
      refine k_region rfl ?_
      refine a_op ?_
      refine a_op ?_
      refine a_call [.r 7 1 0] true (List_good Γ [nest i (.mk 2 0 [116] [])] (by have := nest_sz i (.mk 2 0 [116] []); simp only [Wr.szL]; omega)) ?_ (hv := by (simp (disch := first | omega | (simp only [List.length_drop, List.length_take, List.length_map, List.length_append, List.length_cons, List.length_nil, List.length_replicate, List.length_set] <;> omega) | fail) [-List.map_map, -List.map_drop, -List.map_take, VwL_cons, VwL_nil, Vw_bad, Vw_t, Vw_ptr, Vw_msl, Vw_rop, Vw_agg, Vw_tup, Vw_ifc, VwT_refl, VwL_refl_map, Vw_nilmsl, VwT_msl, VwT_agg, VwT_v, VwT_nil, VwTs_cons, VwTs_nil, VwTs_refl, VwTs_app, List.take_of_length_le, srcL, notIn, ObsVw, SrcOk, pOk, Go.Ot.look, resP, resN, ev, evc, mkS, push_cast, List.take_of_length_le, cellsL_one] <;> (try omega)))
      refine a_op ?_
      refine s_nil (r_false ?_)
      refine q_next ?_
      refine k_region rfl ?_
      iterate 3 refine a_op ?_
      refine s_nil (r_false ?_)
      refine q_block (q_next ?_)
      refine k_region rfl ?_
      iterate 3 refine a_op ?_
      refine s_nil (r_false ?_)
      refine q_loopF (i + 1) (a_le ?_) ?_ ?_
      · refine le_of [(.r 2 3 0, .r 2 3 0), (.r 2 8 0, .r 2 8 0)] ?_ ?_ ?_ <;> simp [-List.map_set, -List.map_replicate, -List.reduceReplicate, -List.map_map, -List.map_drop, -List.map_take, num, bol, txt, w8, w16, w32, w64, lst, cls, rowO, boxO, List.take_of_length_le, Wr.cellsL_len, wA, Wr.k_mk, Wr.n_mk, Wr.s_mk, Wr.l_mk, Wr.cellsL, Wr.z_eq, wC, nest_s, nestS_s]
      · (first | omega | (simp_all <;> omega))
      · (first | omega | (simp only []; omega))
    · (try simp only [Bool.and_eq_true, Bool.or_eq_true, Bool.or_eq_false_iff, Bool.not_eq_true', Bool.not_eq_false', dec_t, dec_f, Bool.and_eq_false_imp, beq_iff_eq, beq_eq_false_iff_ne, ne_eq] at hc0)
      refine k_exit ?_
      refine q_seq_exit (q_loopF_exit (q_block_exit (q_next ?_)))
      refine k_seq ?_
      refine k_seq ?_
      refine k_region rfl ?_
      have hiK : i = K := by omega
      subst hiK
      have hnz := nest_sz i (.mk 2 0 [116] [])
      have hnl := nestS_len i (PutW (.mk 2 0 [116] []))
      refine a_op ?_
      refine a_op (hs := by (simp (disch := first | omega | (simp only [List.length_drop, List.length_take, List.length_map, List.length_append, List.length_cons, List.length_nil, List.length_replicate, List.length_set] <;> omega) | (simp only [push_cast] <;> omega) | fail) only [push_cast, reduceCtorEq, Nat.reduceAdd, Nat.reduceSub, Nat.reduceMul, Nat.reduceEqDiff, Nat.reduceLT, Nat.reduceLeDiff, Nat.reduceMod, Nat.reduceDiv, Int.reduceLE, Int.reduceLT, Int.reduceEq, Int.reduceToNat, Int.reduceAdd, Int.reduceSub, Int.reduceMul, Int.reduceNeg, hj'] <;> rfl)) ?_
      refine a_op ?_
      refine s_nil (r_false ?_)
      refine q_next ?_
      refine a_false ?_
      refine k_skip ?_
      refine q_next ?_
      refine k_seq ?_
      refine k_region rfl ?_
      rcases Nat.lt_or_ge 6 (i + 0) with h6 | h6
      · skip
        refine a_op ?_
        have hgg := (deep_no (j := 1) (k := i) (by omega) hK12 (by simp; omega)).2
        have hgd := Get_good Γ hE (nestS i (PutW (.mk 2 0 [116] []))) (by omega)
        rw [show got (nestS i (PutW (.mk 2 0 [116] []))) = none from hgg, Option.getD_none, Option.isSome_none] at hgd
        refine a_call [] true hgd ?_
        iterate 6 refine a_op ?_
        refine s_nil (r_false ?_)
        refine q_next ?_
        refine k_seq ?_
        refine k_seq ?_
        refine k_region rfl ?_
        refine a_op ?_
        refine a_op ?_
        refine s_nil (r_false ?_)
        refine q_next ?_
        refine a_true ?_
        refine k_seq ?_
        refine k_region rfl ?_
        obtain ⟨hm, hg⟩ : mayW 6 (nest i (.mk 2 0 [116] [])) = false ∧ got (nestS i (PutW (.mk 2 0 [116] []))) = none := deep_no (j := 1) (k := i) (by omega) hK12 (by simp; omega)
        refine a_op ?_
        refine a_call [] false ((by have h := May_good Γ (nest i (.mk 2 0 [116] [])); rw [hm] at h; exact h)) ?_
        refine a_op ?_
        refine a_op ?_
        refine a_go ?_
        refine a_callgo [] false ((by have h := Put_good Γ (nest i (.mk 2 0 [116] [])) (fun h => by rw [hm] at h; cases h); rw [PutW_f hm] at h; exact h)) ?_
        refine a_go ?_
        refine a_op ?_
        refine a_op ?_
        refine a_go ?_
        refine a_go ?_
        refine a_op ?_
        refine a_op ?_
        refine a_callgo [] false (awake_good Γ hE) ?_
        refine a_op ?_
        refine a_op ?_
        refine s_nil (r_false ?_)
        refine q_next ?_
        refine k_ret ?_
        refine q_seq_ret ?_
        refine ⟨.inr rfl, a_ret [] (by rw [results5]) ?_ ?_ ?_⟩ <;> simp [-List.map_set, -List.map_replicate, -List.reduceReplicate, -List.map_map, -List.map_drop, -List.map_take, num, bol, txt, w8, w16, w32, w64, lst, cls, rowO, boxO, List.take_of_length_le, Wr.cellsL_len, wA, Wr.k_mk, Wr.n_mk, Wr.s_mk, Wr.l_mk, Wr.cellsL, Wr.z_eq]
      · skip
        refine a_op ?_
        have hgg := (deep_yes (j := 1) (k := i) (by omega) hK12 (by simp; omega)).2.2
        have hgd := Get_good Γ hE (nestS i (PutW (.mk 2 0 [116] []))) (by omega)
        rw [show got (nestS i (PutW (.mk 2 0 [116] []))) = some (nest i (.mk 2 0 [116] [])) from hgg, Option.getD_some, Option.isSome_some] at hgd
        refine a_call [] true hgd ?_
        iterate 6 refine a_op ?_
        refine s_nil (r_false ?_)
        refine q_next ?_
        refine k_seq ?_
        refine k_seq ?_
        refine k_region rfl ?_
        refine a_op ?_
        refine a_op ?_
        refine s_nil (r_false ?_)
        refine q_next ?_
        refine a_false ?_
        refine k_skip ?_
        refine q_next ?_
        refine k_seq ?_
        refine k_region rfl ?_
        obtain ⟨hm, hp, hg⟩ : mayW 6 (nest i (.mk 2 0 [116] [])) = true ∧ PutW (nest i (.mk 2 0 [116] [])) = (nestS i (PutW (.mk 2 0 [116] []))) ∧ got (nestS i (PutW (.mk 2 0 [116] []))) = some (nest i (.mk 2 0 [116] [])) := deep_yes (j := 1) (k := i) (by omega) hK12 (by simp; omega)
        refine a_op ?_
        refine a_call [] false ((by have h := May_good Γ (nest i (.mk 2 0 [116] [])); rw [hm] at h; exact h)) ?_
        refine a_op ?_
        refine a_go ?_
        refine a_callgo [] false ((by have h := Put_good Γ (nest i (.mk 2 0 [116] [])) (put_imp (by rw [hp]; omega)); rw [hp] at h; exact h)) ?_
        refine a_go ?_
        refine a_go ?_
        refine a_op ?_
        refine a_op ?_
        refine a_go ?_
        refine a_op ?_
        refine a_op ?_
        refine a_go ?_
        refine a_go ?_
        refine a_callgo [] false ((by have h := sameR_good Γ 1000000 (nest i (.mk 2 0 [116] [])) (nest i (.mk 2 0 [116] [])) (by omega) (by omega) (by omega); rw [sameW_self] at h; exact h)) ?_
        refine a_op ?_
        refine a_op ?_
        refine a_callgo [] false (awake_good Γ hE) ?_
        refine a_op ?_
        refine a_op ?_
        refine s_nil (r_false ?_)
        refine q_next ?_
        refine k_ret ?_
        refine ⟨.inr rfl, a_ret [] (by rw [results5]) ?_ ?_ ?_⟩ <;> simp [-List.map_set, -List.map_replicate, -List.reduceReplicate, -List.map_map, -List.map_drop, -List.map_take, num, bol, txt, w8, w16, w32, w64, lst, cls, rowO, boxO, List.take_of_length_le, Wr.cellsL_len, wA, Wr.k_mk, Wr.n_mk, Wr.s_mk, Wr.l_mk, Wr.cellsL, Wr.z_eq]

theorem deep2_good (Γ : Gl) (hE : EG Γ) (n kind : UInt8) (hj : kind.toNat % 3 = 2) : Go.Ot.Good Γ prog 5 [.t (w8 n), .t (w8 kind)] [] (.t (bol true)) [] [] := by
  refine a_body F.mix func5 (by rfl) ntmps5 ?_
  refine k_seq ?_
  refine k_region rfl ?_
  refine a_op ?_
  refine s_nil (r_false ?_)
  refine q_next ?_
  refine k_seq ?_
  refine k_region rfl ?_
  obtain ⟨K, hK⟩ : ∃ K, n.toNat % 12 = K := ⟨_, rfl⟩
  have hK12 : K < 12 := by rw [← hK]; exact Nat.mod_lt _ (by omega)
  have hK' : (n.toNat : Int) % 12 = (K : Int) := by omega
  have hj' : (kind.toNat : Int) % 3 = 2 := by omega
  have hn8 := UInt8.toNat_lt n
  have hk8 := UInt8.toNat_lt kind
  have hb1 : (Wr.sz (.mk 3 0 [] [])) = 1 := base_sz 2 (by omega)
  have hbl : (PutW (.mk 3 0 [] [])).length ≤ 20 := base_len 2 (by omega)
  refine a_op ?_
  refine a_op ?_
  refine a_op (hs := by (simp (disch := first | omega | (simp only [List.length_drop, List.length_take, List.length_map, List.length_append, List.length_cons, List.length_nil, List.length_replicate, List.length_set] <;> omega) | (simp only [push_cast] <;> omega) | fail) only [push_cast, reduceCtorEq, Nat.reduceAdd, Nat.reduceSub, Nat.reduceMul, Nat.reduceEqDiff, Nat.reduceLT, Nat.reduceLeDiff, Nat.reduceMod, Nat.reduceDiv, Int.reduceLE, Int.reduceLT, Int.reduceEq, Int.reduceToNat, Int.reduceAdd, Int.reduceSub, Int.reduceMul, Int.reduceNeg, hK'] <;> rfl)) ?_
  refine a_op ?_
  refine s_nil (r_false ?_)
  refine q_next ?_
  refine k_seq ?_
  refine k_region rfl ?_
  refine a_call [] false (Num_good Γ 5) ?_
  refine a_call [] false (Text_good Γ [116]) ?_
  refine a_call [] true (List_good Γ [] (by decide)) ?_
  refine a_op ?_
  refine a_op ?_
  refine a_op (hs := by (simp (disch := first | omega | (simp only [List.length_drop, List.length_take, List.length_map, List.length_append, List.length_cons, List.length_nil, List.length_replicate, List.length_set] <;> omega) | (simp only [push_cast] <;> omega) | fail) only [push_cast, reduceCtorEq, Nat.reduceAdd, Nat.reduceSub, Nat.reduceMul, Nat.reduceEqDiff, Nat.reduceLT, Nat.reduceLeDiff, Nat.reduceMod, Nat.reduceDiv, Int.reduceLE, Int.reduceLT, Int.reduceEq, Int.reduceToNat, Int.reduceAdd, Int.reduceSub, Int.reduceMul, Int.reduceNeg, hj'] <;> rfl)) ?_
  iterate 4 refine a_op ?_
  refine s_nil (r_false ?_)
  refine q_next ?_
  refine k_seq ?_
  refine k_region rfl ?_
  refine a_op ?_
  refine a_call [] false (Put_good Γ (.mk 3 0 [] []) (put_imp (by omega))) ?_
  refine a_op ?_
  refine s_nil (r_false ?_)
  refine q_next ?_
  refine k_seq ?_
  refine k_seq ?_
  refine k_region rfl ?_
  refine a_op ?_
  refine s_nil (r_false ?_)
  refine q_next ?_
  refine k_block ?_
  refine k_loopF (fun sl L (i : Nat) => ⟨setAll (setBad sl [0, 11, 12, 13, 14, 15, 16, 17, 18, 19, 20, 21, 22, 23, 24, 25, 26, 27, 28, 29, 30, 31, 32, 33]) [(7, .t (txt (nestS i (PutW (.mk 3 0 [] []))))), (8, .t (num i))], Go.Ot.look (putL (.r 2 8 0) (boxO 25 (wC (nest i (.mk 3 0 [] [])))) L)⟩) (fun i => i ≤ K) (fun i => K - i) (0) (a_le ?_) ?_ ?_
  · refine le_of [(.r 2 3 0, .r 2 3 0), (.r 2 8 0, .r 2 8 0)] ?_ ?_ ?_ <;> simp [-List.map_set, -List.map_replicate, -List.reduceReplicate, -List.map_map, -List.map_drop, -List.map_take, num, bol, txt, w8, w16, w32, w64, lst, cls, rowO, boxO, List.take_of_length_le, Wr.cellsL_len, wA, Wr.k_mk, Wr.n_mk, Wr.s_mk, Wr.l_mk, Wr.cellsL, Wr.z_eq, wC, nest_z, nestS_z]
  · (first | omega | simp)
  · intro i hi
    have hnl := nestS_len i (PutW (.mk 3 0 [] []))
    refine a_st ?_
    refine k_seq ?_
    refine k_seq ?_
    refine k_region rfl ?_
    iterate 3 refine a_op ?_
    refine s_nil (r_false ?_)
    refine q_next ?_
    refine a_if (fun hc0 => ?_) (fun hc0 => ?_)
    · (try simp only [Bool.and_eq_true, Bool.or_eq_true, Bool.or_eq_false_iff, Bool.not_eq_true', Bool.not_eq_false', dec_t, dec_f, Bool.and_eq_false_imp, beq_iff_eq, beq_eq_false_iff_ne, ne_eq] at hc0)
      refine k_skip ?_
      refine q_next ?_
      refine k_seq ?_
      refine k_block ?_
      refine k_seq ?_
      refine k_region rfl ?_
      refine a_op ?_
      refine a_op ?_
      refine a_call [.r 7 1 0] true (List_good Γ [nest i (.mk 3 0 [] [])] (by have := nest_sz i (.mk 3 0 [] []); simp only [Wr.szL]; omega)) ?_ (hv := by (simp (disch := first | omega | (simp only [List.length_drop, List.length_take, List.length_map, List.length_append, List.length_cons, List.length_nil, List.length_replicate, List.length_set] <;> omega) | fail) [-List.map_map, -List.map_drop, -List.map_take, VwL_cons, VwL_nil, Vw_bad, Vw_t, Vw_ptr, Vw_msl, Vw_rop, Vw_agg, Vw_tup, Vw_ifc, VwT_refl, VwL_refl_map, Vw_nilmsl, VwT_msl, VwT_agg, VwT_v, VwT_nil, VwTs_cons, VwTs_nil, VwTs_refl, VwTs_app, List.take_of_length_le, srcL, notIn, ObsVw, SrcOk, pOk, Go.Ot.look, resP, resN, ev, evc, mkS, push_cast, List.take_of_length_le, cellsL_one] <;> (try omega)))
      refine a_op ?_
      refine s_nil (r_false ?_)
      refine q_next ?_
      refine k_region rfl ?_
      iterate 3 refine a_op ?_
      refine s_nil (r_false ?_)
      refine q_block (q_next ?_)
      refine k_region rfl ?_
      iterate 3 refine a_op ?_
      refine s_nil (r_false ?_)
      refine q_loopF (i + 1) (a_le ?_) ?_ ?_
      · refine le_of [(.r 2 3 0, .r 2 3 0), (.r 2 8 0, .r 2 8 0)] ?_ ?_ ?_ <;> simp [-List.map_set, -List.map_replicate, -List.reduceReplicate, -List.map_map, -List.map_drop, -List.map_take, num, bol, txt, w8, w16, w32, w64, lst, cls, rowO, boxO, List.take_of_length_le, Wr.cellsL_len, wA, Wr.k_mk, Wr.n_mk, Wr.s_mk, Wr.l_mk, Wr.cellsL, Wr.z_eq, wC, nest_s, nestS_s]
      · (first | omega | (simp_all <;> omega))
      · (first | omega | (simp only []; omega))
    · (try simp only [Bool.and_eq_true, Bool.or_eq_true, Bool.or_eq_false_iff, Bool.not_eq_true', Bool.not_eq_false', dec_t, dec_f, Bool.and_eq_false_imp, beq_iff_eq, beq_eq_false_iff_ne, ne_eq] at hc0)
      refine k_exit ?_
      refine q_seq_exit (q_loopF_exit (q_block_exit (q_next ?_)))
      refine k_seq ?_
      refine k_seq ?_
      refine k_region rfl ?_
      have hiK : i = K := by omega
      subst hiK
      have hnz := nest_sz i (.mk 3 0 [] [])
      have hnl := nestS_len i (PutW (.mk 3 0 [] []))
      refine a_op ?_
      refine a_op (hs := by (simp (disch := first | omega | (simp only [List.length_drop, List.length_take, List.length_map, List.length_append, List.length_cons, List.length_nil, List.length_replicate, List.length_set] <;> omega) | (simp only [push_cast] <;> omega) | fail) only [push_cast, reduceCtorEq, Nat.reduceAdd, Nat.reduceSub, Nat.reduceMul, Nat.reduceEqDiff, Nat.reduceLT, Nat.reduceLeDiff, Nat.reduceMod, Nat.reduceDiv, Int.reduceLE, Int.reduceLT, Int.reduceEq, Int.reduceToNat, Int.reduceAdd, Int.reduceSub, Int.reduceMul, Int.reduceNeg, hj'] <;> rfl)) ?_
      refine a_op ?_
      refine s_nil (r_false ?_)
      refine q_next ?_
      refine a_true ?_
      refine k_region rfl ?_
      iterate 3 refine a_op ?_
      refine s_nil (r_false ?_)
      refine q_next ?_
      refine k_seq ?_
      refine k_region rfl ?_
      rcases Nat.lt_or_ge 6 (i + 1) with h6 | h6
      · skip
        refine a_op ?_
        have hgg := (deep_no (j := 2) (k := i) (by omega) hK12 (by simp; omega)).2
        have hgd := Get_good Γ hE (nestS i (PutW (.mk 3 0 [] []))) (by omega)
        rw [show got (nestS i (PutW (.mk 3 0 [] []))) = none from hgg, Option.getD_none, Option.isSome_none] at hgd
        refine a_call [] true hgd ?_
        iterate 6 refine a_op ?_
        refine s_nil (r_false ?_)
        refine q_next ?_
        refine k_seq ?_
        refine k_seq ?_
        refine k_region rfl ?_
        refine a_op ?_
        refine a_op ?_
        refine s_nil (r_false ?_)
        refine q_next ?_
        refine a_true ?_
        refine k_seq ?_
        refine k_region rfl ?_
        obtain ⟨hm, hg⟩ : mayW 6 (nest i (.mk 3 0 [] [])) = false ∧ got (nestS i (PutW (.mk 3 0 [] []))) = none := deep_no (j := 2) (k := i) (by omega) hK12 (by simp; omega)
        refine a_op ?_
        refine a_call [] false ((by have h := May_good Γ (nest i (.mk 3 0 [] [])); rw [hm] at h; exact h)) ?_
        refine a_op ?_
        refine a_op ?_
        refine a_go ?_
        refine a_callgo [] false ((by have h := Put_good Γ (nest i (.mk 3 0 [] [])) (fun h => by rw [hm] at h; cases h); rw [PutW_f hm] at h; exact h)) ?_
        refine a_go ?_
        refine a_op ?_
        refine a_op ?_
        refine a_go ?_
        refine a_go ?_
        refine a_op ?_
        refine a_op ?_
        refine a_callgo [] false (awake_good Γ hE) ?_
        refine a_op ?_
        refine a_op ?_
        refine s_nil (r_false ?_)
        refine q_next ?_
        refine k_ret ?_
        refine q_seq_ret ?_
        refine ⟨.inr rfl, a_ret [] (by rw [results5]) ?_ ?_ ?_⟩ <;> simp [-List.map_set, -List.map_replicate, -List.reduceReplicate, -List.map_map, -List.map_drop, -List.map_take, num, bol, txt, w8, w16, w32, w64, lst, cls, rowO, boxO, List.take_of_length_le, Wr.cellsL_len, wA, Wr.k_mk, Wr.n_mk, Wr.s_mk, Wr.l_mk, Wr.cellsL, Wr.z_eq]
      · skip
        refine a_op ?_
        have hgg := (deep_yes (j := 2) (k := i) (by omega) hK12 (by simp; omega)).2.2
        have hgd := Get_good Γ hE (nestS i (PutW (.mk 3 0 [] []))) (by omega)
        rw [show got (nestS i (PutW (.mk 3 0 [] []))) = some (nest i (.mk 3 0 [] [])) from hgg, Option.getD_some, Option.isSome_some] at hgd
        refine a_call [] true hgd ?_
        iterate 6 refine a_op ?_
        refine s_nil (r_false ?_)
        refine q_next ?_
        refine k_seq ?_
        refine k_seq ?_
        refine k_region rfl ?_
        refine a_op ?_
        refine a_op ?_
        refine s_nil (r_false ?_)
        refine q_next ?_
        refine a_false ?_
        refine k_skip ?_
        refine q_next ?_
        refine k_seq ?_
        refine k_region rfl ?_
        obtain ⟨hm, hp, hg⟩ : mayW 6 (nest i (.mk 3 0 [] [])) = true ∧ PutW (nest i (.mk 3 0 [] [])) = (nestS i (PutW (.mk 3 0 [] []))) ∧ got (nestS i (PutW (.mk 3 0 [] []))) = some (nest i (.mk 3 0 [] [])) := deep_yes (j := 2) (k := i) (by omega) hK12 (by simp; omega)
        refine a_op ?_
        refine a_call [] false ((by have h := May_good Γ (nest i (.mk 3 0 [] [])); rw [hm] at h; exact h)) ?_
        refine a_op ?_
        refine a_go ?_
        refine a_callgo [] false ((by have h := Put_good Γ (nest i (.mk 3 0 [] [])) (put_imp (by rw [hp]; omega)); rw [hp] at h; exact h)) ?_
        refine a_go ?_
        refine a_go ?_
        refine a_op ?_
        refine a_op ?_
        refine a_go ?_
        refine a_op ?_
        refine a_op ?_
        refine a_go ?_
        refine a_go ?_
        refine a_callgo [] false ((by have h := sameR_good Γ 1000000 (nest i (.mk 3 0 [] [])) (nest i (.mk 3 0 [] [])) (by omega) (by omega) (by omega); rw [sameW_self] at h; exact h)) ?_
        refine a_op ?_
        refine a_op ?_
        refine a_callgo [] false (awake_good Γ hE) ?_
        refine a_op ?_
        refine a_op ?_
        refine s_nil (r_false ?_)
        refine q_next ?_
        refine k_ret ?_
        refine ⟨.inr rfl, a_ret [] (by rw [results5]) ?_ ?_ ?_⟩ <;> simp [-List.map_set, -List.map_replicate, -List.reduceReplicate, -List.map_map, -List.map_drop, -List.map_take, num, bol, txt, w8, w16, w32, w64, lst, cls, rowO, boxO, List.take_of_length_le, Wr.cellsL_len, wA, Wr.k_mk, Wr.n_mk, Wr.s_mk, Wr.l_mk, Wr.cellsL, Wr.z_eq]

theorem deep_law_good (Γ : Gl) (hE : EG Γ) (n kind : UInt8) : Go.Ot.Good Γ prog 5 [.t (w8 n), .t (w8 kind)] [] (.t (bol true)) [] [] := by
  have hj : kind.toNat % 3 = 0 ∨ kind.toNat % 3 = 1 ∨ kind.toNat % 3 = 2 := by omega
  rcases hj with h | h | h
  · exact deep0_good Γ hE n kind h
  · exact deep1_good Γ hE n kind h
  · exact deep2_good Γ hE n kind h
end Go.Proofs.Tryd
