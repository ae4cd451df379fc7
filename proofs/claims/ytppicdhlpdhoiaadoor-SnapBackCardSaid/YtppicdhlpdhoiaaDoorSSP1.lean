/- Contracts of this program's functions. -/
import Derived.Test.YtppicdhlpdhoiaaDoorSSN7
import Derived.Test.YtppicdhlpdhoiaaDoorSSL2
set_option maxHeartbeats 4000000
set_option maxRecDepth 100000
set_option linter.unusedVariables false
set_option linter.unusedSimpArgs false
namespace Go.Proofs.Tryd
open Go Go.Ot
attribute [local irreducible] wpK wpS seqK blockK loopF regK meetK OpSpec Le rdS lpW rdW got mayS mayW putS putW nb u64 PutW stF saB
theorem sput_good (Γ : Gl) (s : Sa) (hs1 : s.seen.length ≤ 100000) (hs2 : s.fs.length ≤ 9223372036854775807) : Go.Ot.Good Γ prog 10 [.agg [.t (.sl s.seen.length (s.seen.flatMap rnT)), .t (.sl s.fs.length (s.fs.flatMap ftT))]] [] (.t (txt (stF s))) [] [] := by
 refine a_body F.mix func10 (by rfl) ntmps10 ?_
 refine k_seq ?_
 refine k_region rfl ?_
 refine a_op ?_
 refine a_op ?_
 refine s_nil (r_false ?_)
 refine q_next ?_
 refine k_seq ?_
 refine k_seq ?_
 refine k_region rfl ?_
 rcases hp : saB s with _ | _
 ·skip
  refine a_op ?_
  refine a_call [] false ((by have h := sa_may Γ s (by omega) hs2; rw [hp] at h; exact h)) ?_
  refine a_op ?_
  refine s_nil (r_false ?_)
  refine q_next ?_
  refine a_true ?_
  refine k_seq ?_
  refine k_region rfl ?_
  refine a_op ?_
  refine s_nil (r_false ?_)
  refine q_next ?_
  refine k_ret ?_
  refine q_seq_ret ?_
  refine ⟨.inr rfl, a_ret [] (by rw [results10]) ?_ ?_ ?_⟩ <;> simp [-List.map_set, -List.map_replicate, -List.reduceReplicate, -List.map_map, -List.map_drop, -List.map_take, num, bol, txt, w8, w16, w32, w64, lst, cls, rowO, boxO, List.take_of_length_le, Wr.cellsL_len, wA, Wr.k_mk, Wr.n_mk, Wr.s_mk, Wr.l_mk, Wr.cellsL, Wr.z_eq, rnT, ftT, stF_f hp]
 ·skip
  refine a_op ?_
  refine a_call [] false ((by have h := sa_may Γ s (by omega) hs2; rw [hp] at h; exact h)) ?_
  refine a_op ?_
  refine s_nil (r_false ?_)
  refine q_next ?_
  refine a_false ?_
  refine k_skip ?_
  refine q_next ?_
  refine k_seq ?_
  refine k_region rfl ?_
  have hfw := (saB_q.1 hp).few
  refine a_op ?_
  refine a_op ?_
  refine s_nil (r_false ?_)
  refine q_next ?_
  refine k_seq ?_
  refine k_seq ?_
  refine k_region rfl ?_
  iterate 4 refine a_op ?_
  refine s_nil (r_false ?_)
  refine q_next ?_
  refine k_block ?_
  refine k_loopF (fun sl L (i : Nat) => ⟨setAll (setBad sl [0, 6, 9, 10, 11, 12, 16, 17, 18, 19, 20, 21, 22, 23, 24, 25, 26, 27, 28, 29, 30, 31, 32, 33]) [(3, .msl (.n 9) 0 i 4), (15, .t (num i))], Go.Ot.look (putL (.n 9) (rowW ((s.seen.take i).map rW)) L)⟩) (fun i => i ≤ s.seen.length) (fun i => s.seen.length - i) (0) (a_le ?_) ?_ ?_
  ·refine le_of [(.r 0 0 0, .r 0 0 0)] ?_ ?_ ?_ <;> simp [-List.map_set, -List.map_replicate, -List.reduceReplicate, -List.map_map, -List.map_drop, -List.map_take, num, bol, txt, w8, w16, w32, w64, lst, cls, rowO, boxO, List.take_of_length_le, Wr.cellsL_len, wA, Wr.k_mk, Wr.n_mk, Wr.s_mk, Wr.l_mk, Wr.cellsL, Wr.z_eq, rnT, ftT, rowW]
  ·(first | omega | simp)
  ·intro i hi
   refine a_st ?_
   refine k_seq ?_
   refine k_region rfl ?_
   refine a_op ?_
   refine s_nil (r_false ?_)
   refine q_next ?_
   refine k_seq ?_
   refine a_if (fun hc1 => ?_) (fun hc1 => ?_)
   ·(try simp only [Bool.and_eq_true, Bool.or_eq_true, Bool.or_eq_false_iff, Bool.not_eq_true', Bool.not_eq_false', dec_t, dec_f, Bool.and_eq_false_imp, beq_iff_eq, beq_eq_false_iff_ne, ne_eq] at hc1)
    refine k_skip ?_
    refine q_next ?_
    refine k_seq ?_
    refine k_block ?_
    refine k_seq ?_
    refine k_region rfl ?_
    refine a_op ?_
    refine a_op ?_
    have hib : i < s.seen.length := by omega
    obtain ⟨e, he⟩ : ∃ e, s.seen.getD i default = e := ⟨_, rfl⟩
    simp only [he]
    refine a_op ?_
    refine a_op ?_
    refine s_nil (r_false ?_)
    refine q_next ?_
    refine g_start (.n 9) [3, 19] [] rfl ?_
    refine g_op ?_
    refine g_op ?_
    refine g_op ?_
    refine g_callp [] [] [] false (Num_good Γ e.dev) ?_
    refine g_op ?_
    refine g_op ?_
    refine g_callp [] [] [] false (Num_good Γ e.fr) ?_
    refine g_op ?_
    refine g_op ?_
    refine g_callp [] [] [] false (Num_good Γ e.to) ?_
    refine g_op ?_
    refine g_callp [] [.r 7 10 0] [] true (List_good Γ [.mk 1 e.dev [] [], .mk 1 e.fr [] [], .mk 1 e.to [] []] (by simp [Wr.szL, Wr.sz])) ?_
    refine g_op ?_
    refine g_op ?_
    refine g_op ?_
    refine g_nil ⟨g_ok (by kernel_rfl) (by kernel_rfl), ?_⟩
    refine q_block (q_next ?_)
    refine k_region rfl ?_
    refine a_op ?_
    refine a_op ?_
    refine s_nil (r_false ?_)
    have hnx : (s.seen.take (i + 1)).map rW = (s.seen.take i).map rW ++ [.mk 3 0 [] [.mk 1 e.dev [] [], .mk 1 e.fr [] [], .mk 1 e.to [] []]] := by rw [map_next hib, he]; rfl
    refine q_loopF (i + 1) (a_le ?_) ?_ ?_
    ·refine le_of [(.r 0 0 0, .r 0 0 0), (.n 9, .n 9)] ?_ ?_ ?_ <;> simp [-List.map_set, -List.map_replicate, -List.reduceReplicate, -List.map_map, -List.map_drop, -List.map_take, num, bol, txt, w8, w16, w32, w64, lst, cls, rowO, boxO, List.take_of_length_le, Wr.cellsL_len, wA, Wr.k_mk, Wr.n_mk, Wr.s_mk, Wr.l_mk, Wr.cellsL, Wr.z_eq, rnT, ftT, rowW, hnx, cells_app, wC, Wr.cells]
    ·(first | omega | (simp_all <;> omega))
    ·(first | omega | (simp only []; omega))
   ·(try simp only [Bool.and_eq_true, Bool.or_eq_true, Bool.or_eq_false_iff, Bool.not_eq_true', Bool.not_eq_false', dec_t, dec_f, Bool.and_eq_false_imp, beq_iff_eq, beq_eq_false_iff_ne, ne_eq] at hc1)
    refine k_exit ?_
    refine q_seq_exit (q_loopF_exit (q_block_exit (q_next ?_)))
    refine k_seq ?_
    refine k_seq ?_
    refine k_region rfl ?_
    have hil : i = s.seen.length := by omega
    subst hil
    simp only [List.take_length]
    iterate 4 refine a_op ?_
    refine s_nil (r_false ?_)
    refine q_next ?_
    refine k_block ?_
    refine k_loopF (fun sl L (i : Nat) => ⟨setAll (setBad sl [0, 1, 6, 8, 9, 10, 11, 12, 13, 14, 15, 16, 17, 18, 19, 20, 21, 22, 23, 24, 25, 26, 27, 28, 29, 30, 31, 32, 33, 34, 38, 39, 40, 41, 42, 43, 44, 45, 46, 47, 48, 49, 50, 51, 52, 53, 54, 55, 56, 57, 58, 59, 60, 61, 62, 63, 64, 65, 66]) [(4, .msl (.n 8) 0 i 4), (37, .t (num i))], Go.Ot.look (putL (.n 8) (rowW ((s.fs.take i).map fW)) L)⟩) (fun i => i ≤ s.fs.length) (fun i => s.fs.length - i) (0) (a_le ?_) ?_ ?_
    ·refine le_of [(.r 0 0 0, .r 0 0 0), (.n 9, .n 9)] ?_ ?_ ?_ <;> simp [-List.map_set, -List.map_replicate, -List.reduceReplicate, -List.map_map, -List.map_drop, -List.map_take, num, bol, txt, w8, w16, w32, w64, lst, cls, rowO, boxO, List.take_of_length_le, Wr.cellsL_len, wA, Wr.k_mk, Wr.n_mk, Wr.s_mk, Wr.l_mk, Wr.cellsL, Wr.z_eq, rnT, ftT, rowW]
    ·(first | omega | simp)
    ·intro i hi
     refine a_st ?_
     refine k_seq ?_
     refine k_region rfl ?_
     refine a_op ?_
     refine s_nil (r_false ?_)
     refine q_next ?_
     refine k_seq ?_
     refine a_if (fun hc2 => ?_) (fun hc2 => ?_)
     ·(try simp only [Bool.and_eq_true, Bool.or_eq_true, Bool.or_eq_false_iff, Bool.not_eq_true', Bool.not_eq_false', dec_t, dec_f, Bool.and_eq_false_imp, beq_iff_eq, beq_eq_false_iff_ne, ne_eq] at hc2)
      refine k_skip ?_
      refine q_next ?_
      refine k_seq ?_
      refine k_block ?_
      refine k_seq ?_
      refine k_region rfl ?_
      refine a_op ?_
      refine a_op ?_
      have hib : i < s.fs.length := by omega
      obtain ⟨e, he⟩ : ∃ e, s.fs.getD i default = e := ⟨_, rfl⟩
      simp only [he]
      refine a_op ?_
      refine a_op ?_
      refine s_nil (r_false ?_)
      refine q_next ?_
      refine g_start (.n 8) [4, 41] [] rfl ?_
      refine g_op ?_
      refine g_op ?_
      refine g_op ?_
      refine g_op ?_
      refine g_callp [] [] [] false (Num_good Γ e.dev) ?_
      refine g_op ?_
      refine g_op ?_
      refine g_op ?_
      refine g_callp [] [] [] false (Num_good Γ e.n) ?_
      refine g_op ?_
      refine g_op ?_
      refine g_callp [] [] [] false (Text_good Γ e.key) ?_
      refine g_op ?_
      refine g_op ?_
      refine g_callp [] [] [] false (Num_good Γ e.kind) ?_
      refine g_op ?_
      refine g_op ?_
      refine g_callp [] [] [] false (Text_good Γ e.item) ?_
      refine g_op ?_
      refine g_op ?_
      refine g_callp [] [] [] false (Num_good Γ e.m) ?_
      refine g_op ?_
      refine g_callp [] [.r 12 21 0] [] true (List_good Γ [.mk 1 e.dev [] [], .mk 1 e.n [] [], .mk 2 0 e.key [], .mk 1 e.kind [] [], .mk 2 0 e.item [], .mk 1 e.m [] []] (by simp [Wr.szL, Wr.sz])) ?_
      refine g_op ?_
      refine g_op ?_
      refine g_op ?_
      refine g_nil ⟨g_ok (by kernel_rfl) (by kernel_rfl), ?_⟩
      refine q_block (q_next ?_)
      refine k_region rfl ?_
      refine a_op ?_
      refine a_op ?_
      refine s_nil (r_false ?_)
      have hnx : (s.fs.take (i + 1)).map fW = (s.fs.take i).map fW ++ [.mk 3 0 [] [.mk 1 e.dev [] [], .mk 1 e.n [] [], .mk 2 0 e.key [], .mk 1 e.kind [] [], .mk 2 0 e.item [], .mk 1 e.m [] []]] := by rw [map_next hib, he]; rfl
      refine q_loopF (i + 1) (a_le ?_) ?_ ?_
      ·refine le_of [(.r 0 0 0, .r 0 0 0), (.n 9, .n 9), (.n 8, .n 8)] ?_ ?_ ?_ <;> simp [-List.map_set, -List.map_replicate, -List.reduceReplicate, -List.map_map, -List.map_drop, -List.map_take, num, bol, txt, w8, w16, w32, w64, lst, cls, rowO, boxO, List.take_of_length_le, Wr.cellsL_len, wA, Wr.k_mk, Wr.n_mk, Wr.s_mk, Wr.l_mk, Wr.cellsL, Wr.z_eq, rnT, ftT, rowW, hnx, cells_app, wC, Wr.cells]
      ·(first | omega | (simp_all <;> omega))
      ·(first | omega | (simp only []; omega))
     ·(try simp only [Bool.and_eq_true, Bool.or_eq_true, Bool.or_eq_false_iff, Bool.not_eq_true', Bool.not_eq_false', dec_t, dec_f, Bool.and_eq_false_imp, beq_iff_eq, beq_eq_false_iff_ne, ne_eq] at hc2)
      refine k_exit ?_
      refine q_seq_exit (q_loopF_exit (q_block_exit (q_next ?_)))
      refine k_seq ?_
      refine k_region rfl ?_
      have hil : i = s.fs.length := by omega
      subst hil
      simp only [List.take_length]
      have hz1 := szL_rW s.seen
      have hz2 := szL_fW s.fs
      have hz3 := cells_allZ (l := s.seen.map rW) (n := s.seen.length) (by simp)
      have hz4 := cells_allZ (l := s.fs.map fW) (n := s.fs.length) (by simp)
      refine a_op ?_
      refine a_call [.n 9] true (List_good Γ (s.seen.map rW) (by omega)) ?_ (hv := by (simp (disch := first | omega | (simp only [List.length_drop, List.length_take, List.length_map, List.length_append, List.length_cons, List.length_nil, List.length_replicate, List.length_set] <;> omega) | fail) [-List.map_map, -List.map_drop, -List.map_take, VwL_cons, VwL_nil, Vw_bad, Vw_t, Vw_ptr, Vw_msl, Vw_rop, Vw_agg, Vw_tup, Vw_ifc, VwT_refl, VwL_refl_map, Vw_nilmsl, VwT_msl, VwT_agg, VwT_v, VwT_nil, VwTs_cons, VwTs_nil, VwTs_refl, VwTs_app, List.take_of_length_le, srcL, notIn, ObsVw, SrcOk, pOk, Go.Ot.look, resP, resN, ev, evc, mkS, push_cast, List.take_of_length_le, hz3, List.length_map] <;> (try omega)))
      refine a_op ?_
      refine a_call [.n 8] true (List_good Γ (s.fs.map fW) (by omega)) ?_ (hv := by (simp (disch := first | omega | (simp only [List.length_drop, List.length_take, List.length_map, List.length_append, List.length_cons, List.length_nil, List.length_replicate, List.length_set] <;> omega) | fail) [-List.map_map, -List.map_drop, -List.map_take, VwL_cons, VwL_nil, Vw_bad, Vw_t, Vw_ptr, Vw_msl, Vw_rop, Vw_agg, Vw_tup, Vw_ifc, VwT_refl, VwL_refl_map, Vw_nilmsl, VwT_msl, VwT_agg, VwT_v, VwT_nil, VwTs_cons, VwTs_nil, VwTs_refl, VwTs_app, List.take_of_length_le, srcL, notIn, ObsVw, SrcOk, pOk, Go.Ot.look, resP, resN, ev, evc, mkS, push_cast, List.take_of_length_le, hz4, List.length_map] <;> (try omega)))
      refine a_op ?_
      refine a_call [.r 14 4 0] true (List_good Γ [.mk 3 0 [] (s.seen.map rW), .mk 3 0 [] (s.fs.map fW)] (by simp [Wr.szL, Wr.sz]; omega)) ?_
      refine a_call [] false (Put_good Γ (.mk 3 0 [] [.mk 3 0 [] (s.seen.map rW), .mk 3 0 [] (s.fs.map fW)]) (fun _ => st_small hp hs1)) ?_
      refine a_op ?_
      refine s_nil (r_false ?_)
      refine q_next ?_
      refine k_ret ?_
      refine ⟨.inr rfl, a_ret [] (by rw [results10]) ?_ ?_ ?_⟩ <;> simp [-List.map_set, -List.map_replicate, -List.reduceReplicate, -List.map_map, -List.map_drop, -List.map_take, num, bol, txt, w8, w16, w32, w64, lst, cls, rowO, boxO, List.take_of_length_le, Wr.cellsL_len, wA, Wr.k_mk, Wr.n_mk, Wr.s_mk, Wr.l_mk, Wr.cellsL, Wr.z_eq, rnT, ftT, stF_t hp, stW]

end Go.Proofs.Tryd
