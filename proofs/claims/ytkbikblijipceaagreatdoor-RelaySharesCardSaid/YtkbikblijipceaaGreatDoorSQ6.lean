/- Contracts of this program's functions. -/
import Derived.Test.YtkbikblijipceaaGreatDoorSQP
import Derived.Test.YtkbikblijipceaaGreatDoorSU1
import Derived.Test.YtkbikblijipceaaGreatDoorSU2
set_option maxHeartbeats 4000000
set_option maxRecDepth 100000
set_option linter.unusedVariables false
set_option linter.unusedSimpArgs false
namespace Go.Proofs.Tryz
open Go Go.Ot
attribute [local irreducible] wpK wpS seqK blockK loopF regK meetK OpSpec Le rdS lpW rdW got mayS mayW ixF putS putW nb nbS u64 fmT PutW Rq.p Rp.p GQ GP tsz wTs
theorem NumR_good (Γ : Gl) (n : Int) : Go.Ot.Good Γ prog 42 [.t (num n)] [] (wA (.mk 1 n [] [])) [] [] := by
 refine a_body F.mix func42 (by rfl) ntmps42 ?_
 refine k_seq ?_
 refine k_region rfl ?_
 refine a_op ?_
 refine s_nil (r_false ?_)
 refine q_next ?_
 refine k_seq ?_
 refine k_region rfl ?_
 iterate 3 refine a_op ?_
 refine s_nil (r_false ?_)
 refine q_next ?_
 refine k_ret ?_
 refine ⟨.inr rfl, a_ret [] (by rw [results42]) ?_ ?_ ?_⟩ <;> simp [-List.map_set, -List.map_replicate, -List.reduceReplicate, -List.map_map, -List.map_drop, -List.map_take, num, bol, txt, w8, w16, w32, w64, lst, cls, rowO, boxO, List.take_of_length_le, Wr.cellsL_len, wA, Wr.k_mk, Wr.n_mk, Wr.s_mk, Wr.l_mk, Wr.cellsL, Wr.z_eq]

theorem TextR_good (Γ : Gl) (s : List UInt8) : Go.Ot.Good Γ prog 43 [.t (txt s)] [] (wA (.mk 2 0 s [])) [] [] := by
 refine a_body F.mix func43 (by rfl) ntmps43 ?_
 refine k_seq ?_
 refine k_region rfl ?_
 refine a_op ?_
 refine s_nil (r_false ?_)
 refine q_next ?_
 refine k_seq ?_
 refine k_region rfl ?_
 iterate 3 refine a_op ?_
 refine s_nil (r_false ?_)
 refine q_next ?_
 refine k_ret ?_
 refine ⟨.inr rfl, a_ret [] (by rw [results43]) ?_ ?_ ?_⟩ <;> simp [-List.map_set, -List.map_replicate, -List.reduceReplicate, -List.map_map, -List.map_drop, -List.map_take, num, bol, txt, w8, w16, w32, w64, lst, cls, rowO, boxO, List.take_of_length_le, Wr.cellsL_len, wA, Wr.k_mk, Wr.n_mk, Wr.s_mk, Wr.l_mk, Wr.cellsL, Wr.z_eq]

theorem ListR_good (Γ : Gl) (l : List Wr) : Go.Ot.Good Γ prog 41 [wS l] [] (wA (.mk 3 0 [] l)) [] [] := by
 refine a_body F.mix func41 (by rfl) ntmps41 ?_
 refine k_seq ?_
 refine k_region rfl ?_
 refine a_op ?_
 refine s_nil (r_false ?_)
 refine q_next ?_
 refine k_seq ?_
 refine k_region rfl ?_
 iterate 3 refine a_op ?_
 refine s_nil (r_false ?_)
 refine q_next ?_
 refine k_ret ?_
 refine ⟨.inr rfl, a_ret [] (by rw [results41]) ?_ ?_ ?_⟩ <;> simp [-List.map_set, -List.map_replicate, -List.reduceReplicate, -List.map_map, -List.map_drop, -List.map_take, num, bol, txt, w8, w16, w32, w64, lst, cls, rowO, boxO, List.take_of_length_le, Wr.cellsL_len, wA, Wr.k_mk, Wr.n_mk, Wr.s_mk, Wr.l_mk, Wr.cellsL, Wr.z_eq]

theorem Part_good (Γ : Gl) (W : Wr) (i : Nat) : Go.Ot.Good Γ prog 46 [wA W, .t (num i)] [] (wA (part W i)) [] [] := by
 refine a_body F.mix func46 (by rfl) ntmps46 ?_
 refine k_seq ?_
 refine k_region rfl ?_
 refine a_op ?_
 refine a_op ?_
 refine s_nil (r_false ?_)
 refine q_next ?_
 refine k_seq ?_
 refine k_seq ?_
 refine k_region rfl ?_
 iterate 5 refine a_op ?_
 refine s_nil (r_false ?_)
 refine q_next ?_
 refine a_if (fun hc0 => ?_) (fun hc0 => ?_)
 ·(try simp only [Bool.and_eq_true, Bool.or_eq_true, Bool.or_eq_false_iff, Bool.not_eq_true', Bool.not_eq_false', dec_t, dec_f, Bool.and_eq_false_imp, beq_iff_eq, beq_eq_false_iff_ne, ne_eq] at hc0)
  have he : part W i = Wr.z := part_no (by omega)
  refine k_seq ?_
  refine k_region rfl ?_
  refine a_op ?_
  refine a_op ?_
  refine s_nil (r_false ?_)
  refine q_next ?_
  refine k_ret ?_
  refine q_seq_ret ?_
  refine ⟨.inr rfl, a_ret [] (by rw [results46]) ?_ ?_ ?_⟩ <;> simp [-List.map_set, -List.map_replicate, -List.reduceReplicate, -List.map_map, -List.map_drop, -List.map_take, num, bol, txt, w8, w16, w32, w64, lst, cls, rowO, boxO, List.take_of_length_le, Wr.cellsL_len, wA, Wr.k_mk, Wr.n_mk, Wr.s_mk, Wr.l_mk, Wr.cellsL, Wr.z_eq, he]
 ·(try simp only [Bool.and_eq_true, Bool.or_eq_true, Bool.or_eq_false_iff, Bool.not_eq_true', Bool.not_eq_false', dec_t, dec_f, Bool.and_eq_false_imp, beq_iff_eq, beq_eq_false_iff_ne, ne_eq] at hc0)
  have he : part W i = W.l.getD i default := part_yes (by omega)
  refine k_skip ?_
  refine q_next ?_
  refine k_seq ?_
  refine k_region rfl ?_
  iterate 4 refine a_op ?_
  refine a_op (hc := by (rw [List.length_drop, Wr.cellsL_len]; omega)) ?_
  refine a_op ?_
  refine s_nil (r_false ?_)
  refine q_next ?_
  refine k_ret ?_
  refine ⟨.inr rfl, a_ret [] (by rw [results46]) ?_ ?_ ?_⟩ <;> simp [-List.map_set, -List.map_replicate, -List.reduceReplicate, -List.map_map, -List.map_drop, -List.map_take, num, bol, txt, w8, w16, w32, w64, lst, cls, rowO, boxO, List.take_of_length_le, Wr.cellsL_len, wA, Wr.k_mk, Wr.n_mk, Wr.s_mk, Wr.l_mk, Wr.cellsL, Wr.z_eq, he]

theorem Part0 (Γ : Gl) (W : Wr) : Go.Ot.Good Γ prog 46 [wA W, .t (num 0)] [] (wA (part W 0)) [] [] := Part_good Γ W 0

theorem Part1 (Γ : Gl) (W : Wr) : Go.Ot.Good Γ prog 46 [wA W, .t (num 1)] [] (wA (part W 1)) [] [] := Part_good Γ W 1

theorem Part2 (Γ : Gl) (W : Wr) : Go.Ot.Good Γ prog 46 [wA W, .t (num 2)] [] (wA (part W 2)) [] [] := Part_good Γ W 2

theorem Part3 (Γ : Gl) (W : Wr) : Go.Ot.Good Γ prog 46 [wA W, .t (num 3)] [] (wA (part W 3)) [] [] := Part_good Γ W 3

theorem Texts_good (Γ : Gl) (W : Wr) (hl : W.l.length ≤ 1000000) : Go.Ot.Good Γ prog 47 [wA W] [] (.t (lst txt (wTs W.l))) [] [] := by
 refine a_body F.mix func47 (by rfl) ntmps47 ?_
 refine k_seq ?_
 refine k_region rfl ?_
 refine a_op ?_
 refine a_op ?_
 refine s_nil (r_false ?_)
 refine q_next ?_
 refine k_seq ?_
 refine k_region rfl ?_
 refine a_op ?_
 refine s_nil (r_false ?_)
 refine q_next ?_
 refine k_seq ?_
 refine k_seq ?_
 refine k_region rfl ?_
 refine a_op ?_
 refine s_nil (r_false ?_)
 refine q_next ?_
 refine k_block ?_
 refine k_loopF (fun sl L (i : Nat) => ⟨setAll (setBad sl [0, 5, 6, 7, 8, 9, 10, 11, 12, 13, 14, 15, 16, 17, 18, 19, 20]) [(3, .msl (.n 9) 0 i 1), (4, .t (num i))], Go.Ot.look (putL (.n 9) (rowO 9 txt (wTs (W.l.take i))) L)⟩) (fun i => i ≤ W.l.length) (fun i => W.l.length - i) (0) (a_le ?_) ?_ ?_
 ·refine le_of [(.r 0 0 0, .r 0 0 0)] ?_ ?_ ?_ <;> simp [-List.map_set, -List.map_replicate, -List.reduceReplicate, -List.map_map, -List.map_drop, -List.map_take, num, bol, txt, w8, w16, w32, w64, lst, cls, rowO, boxO, List.take_of_length_le, Wr.cellsL_len, wA, Wr.k_mk, Wr.n_mk, Wr.s_mk, Wr.l_mk, Wr.cellsL, Wr.z_eq, wTs_len, List.take_zero, wTs_nil]
 ·(first | omega | simp)
 ·intro i hi
  refine a_st ?_
  refine k_seq ?_
  refine k_seq ?_
  refine k_region rfl ?_
  iterate 5 refine a_op ?_
  refine s_nil (r_false ?_)
  refine q_next ?_
  refine a_if (fun hc0 => ?_) (fun hc0 => ?_)
  ·(try simp only [Bool.and_eq_true, Bool.or_eq_true, Bool.or_eq_false_iff, Bool.not_eq_true', Bool.not_eq_false', dec_t, dec_f, Bool.and_eq_false_imp, beq_iff_eq, beq_eq_false_iff_ne, ne_eq] at hc0)
   refine k_skip ?_
   refine q_next ?_
   refine k_seq ?_
   refine k_block ?_
   refine k_region rfl ?_
   have hil : i < W.l.length := by omega
   iterate 4 refine a_op ?_
   refine a_op (hc := by first | exact True.intro | omega | (simp only [List.length_drop, Wr.cellsL_len]; omega)) ?_
   refine a_op (hc := by first | exact True.intro | omega | (simp only [List.length_drop, Wr.cellsL_len]; omega)) ?_
   refine a_op (hs := by (simp only [push_cast, cls_s hil] <;> rfl)) (hc := by (simp only [List.length_drop, Wr.cellsL_len]; omega)) ?_
   iterate 3 refine a_op ?_
   refine s_nil (r_false ?_)
   refine q_block (q_next ?_)
   refine k_region rfl ?_
   iterate 3 refine a_op ?_
   refine s_nil (r_false ?_)
   refine q_loopF (i + 1) (a_le ?_) ?_ ?_
   ·refine le_of [(.r 0 0 0, .r 0 0 0), (.n 9, .n 9)] ?_ ?_ ?_ <;> simp [-List.map_set, -List.map_replicate, -List.reduceReplicate, -List.map_map, -List.map_drop, -List.map_take, num, bol, txt, w8, w16, w32, w64, lst, cls, rowO, boxO, List.take_of_length_le, Wr.cellsL_len, wA, Wr.k_mk, Wr.n_mk, Wr.s_mk, Wr.l_mk, Wr.cellsL, Wr.z_eq, wTs_len, wTs_next hil]
   ·(first | omega | (simp_all <;> omega))
   ·(first | omega | (simp only []; omega))
  ·(try simp only [Bool.and_eq_true, Bool.or_eq_true, Bool.or_eq_false_iff, Bool.not_eq_true', Bool.not_eq_false', dec_t, dec_f, Bool.and_eq_false_imp, beq_iff_eq, beq_eq_false_iff_ne, ne_eq] at hc0)
   refine k_exit ?_
   refine q_seq_exit (q_loopF_exit (q_block_exit (q_next ?_)))
   refine k_seq ?_
   refine k_region rfl ?_
   have hil : i = W.l.length := by omega
   subst hil
   have htl : W.l.take W.l.length = W.l := List.take_length
   refine a_op ?_
   refine a_op ?_
   refine s_nil (r_false ?_)
   refine q_next ?_
   refine k_ret ?_
   refine ⟨.inr rfl, a_ret [] (by rw [results47]) ?_ ?_ ?_⟩ <;> simp [-List.map_set, -List.map_replicate, -List.reduceReplicate, -List.map_map, -List.map_drop, -List.map_take, num, bol, txt, w8, w16, w32, w64, lst, cls, rowO, boxO, List.take_of_length_le, Wr.cellsL_len, wA, Wr.k_mk, Wr.n_mk, Wr.s_mk, Wr.l_mk, Wr.cellsL, Wr.z_eq, wTs_len, List.take_length, wTs_take]

theorem TextList_good (Γ : Gl) (l : List (List UInt8)) (hl : l.length ≤ 1000000) : Go.Ot.Good Γ prog 53 [.t (lst txt l)] [] (wA (.mk 3 0 [] (txtsW l))) [] [] := by
 refine a_body F.mix func53 (by rfl) ntmps53 ?_
 refine k_seq ?_
 refine k_region rfl ?_
 refine a_op ?_
 refine s_nil (r_false ?_)
 refine q_next ?_
 refine k_seq ?_
 refine k_region rfl ?_
 refine a_op ?_
 refine s_nil (r_false ?_)
 refine q_next ?_
 refine k_seq ?_
 refine k_seq ?_
 refine k_region rfl ?_
 refine a_op ?_
 refine s_nil (r_false ?_)
 refine q_next ?_
 refine k_block ?_
 refine k_loopF (fun sl L (i : Nat) => ⟨setAll (setBad sl [5, 6, 7, 8, 9, 10, 11, 12, 13, 14, 15, 16, 17, 18]) [(3, .msl (.n 9) 0 i 4), (4, .t (num i))], Go.Ot.look (putL (.n 9) (rowW (txtsW (l.take i))) L)⟩) (fun i => i ≤ l.length) (fun i => l.length - i) (0) (a_le ?_) ?_ ?_
 ·refine le_of [(.r 0 0 0, .r 0 0 0)] ?_ ?_ ?_ <;> simp [-List.map_set, -List.map_replicate, -List.reduceReplicate, -List.map_map, -List.map_drop, -List.map_take, num, bol, txt, w8, w16, w32, w64, lst, cls, rowO, boxO, List.take_of_length_le, Wr.cellsL_len, wA, Wr.k_mk, Wr.n_mk, Wr.s_mk, Wr.l_mk, Wr.cellsL, Wr.z_eq, txtsW_len, rowW, txtsW_nil]
 ·(first | omega | simp)
 ·intro i hi
  refine a_st ?_
  refine k_seq ?_
  refine k_seq ?_
  refine k_region rfl ?_
  iterate 4 refine a_op ?_
  refine s_nil (r_false ?_)
  refine q_next ?_
  refine a_if (fun hc0 => ?_) (fun hc0 => ?_)
  ·(try simp only [Bool.and_eq_true, Bool.or_eq_true, Bool.or_eq_false_iff, Bool.not_eq_true', Bool.not_eq_false', dec_t, dec_f, Bool.and_eq_false_imp, beq_iff_eq, beq_eq_false_iff_ne, ne_eq] at hc0)
   refine k_skip ?_
   refine q_next ?_
   refine k_seq ?_
   refine k_block ?_
   refine k_region rfl ?_
   have hil : i < l.length := by omega
   iterate 5 refine a_op ?_
   refine a_call [] false (TextR_good Γ (l.getD i [])) ?_
   iterate 3 refine a_op ?_
   refine s_nil (r_false ?_)
   refine q_block (q_next ?_)
   refine k_region rfl ?_
   iterate 3 refine a_op ?_
   refine s_nil (r_false ?_)
   refine q_loopF (i + 1) (a_le ?_) ?_ ?_
   ·refine le_of [(.r 0 0 0, .r 0 0 0), (.n 9, .n 9)] ?_ ?_ ?_ <;> simp [-List.map_set, -List.map_replicate, -List.reduceReplicate, -List.map_map, -List.map_drop, -List.map_take, num, bol, txt, w8, w16, w32, w64, lst, cls, rowO, boxO, List.take_of_length_le, Wr.cellsL_len, wA, Wr.k_mk, Wr.n_mk, Wr.s_mk, Wr.l_mk, Wr.cellsL, Wr.z_eq, txtsW_len, rowW, txtsW_next hil, cells_app, wC]
   ·(first | omega | (simp_all <;> omega))
   ·(first | omega | (simp only []; omega))
  ·(try simp only [Bool.and_eq_true, Bool.or_eq_true, Bool.or_eq_false_iff, Bool.not_eq_true', Bool.not_eq_false', dec_t, dec_f, Bool.and_eq_false_imp, beq_iff_eq, beq_eq_false_iff_ne, ne_eq] at hc0)
   refine k_exit ?_
   refine q_seq_exit (q_loopF_exit (q_block_exit (q_next ?_)))
   refine k_seq ?_
   refine k_region rfl ?_
   have hil : i = l.length := by omega
   subst hil
   refine a_op ?_
   refine a_call [.n 9] true (ListR_good Γ (txtsW l)) ?_ (hv := by (simp (disch := first | omega | (simp only [List.length_drop, List.length_take, List.length_map, List.length_append, List.length_cons, List.length_nil, List.length_replicate, List.length_set] <;> omega) | fail) [-List.map_map, -List.map_drop, -List.map_take, VwL_cons, VwL_nil, Vw_bad, Vw_t, Vw_ptr, Vw_msl, Vw_rop, Vw_agg, Vw_tup, Vw_ifc, VwT_refl, VwL_refl_map, Vw_nilmsl, VwT_msl, VwT_agg, VwT_v, VwT_nil, VwTs_cons, VwTs_nil, VwTs_refl, VwTs_app, List.take_of_length_le, srcL, notIn, ObsVw, SrcOk, pOk, Go.Ot.look, resP, resN, ev, evc, mkS, push_cast, List.take_of_length_le, cells_allT, txtsW_len] <;> (try omega)))
   refine a_op ?_
   refine s_nil (r_false ?_)
   refine q_next ?_
   refine k_ret ?_
   refine ⟨.inr rfl, a_ret [] (by rw [results53]) ?_ ?_ ?_⟩ <;> simp [-List.map_set, -List.map_replicate, -List.reduceReplicate, -List.map_map, -List.map_drop, -List.map_take, num, bol, txt, w8, w16, w32, w64, lst, cls, rowO, boxO, List.take_of_length_le, Wr.cellsL_len, wA, Wr.k_mk, Wr.n_mk, Wr.s_mk, Wr.l_mk, Wr.cellsL, Wr.z_eq, txtsW_len]

theorem rqPutR_good (Γ : Gl) (q : Rq) : Go.Ot.Good Γ prog 15 [qA q] [] (.t (txt q.p)) [] [] := by
 refine a_body F.mix func15 (by rfl) ntmps15 ?_
 refine k_seq ?_
 refine k_region rfl ?_
 refine a_op ?_
 refine a_op ?_
 refine s_nil (r_false ?_)
 refine q_next ?_
 refine k_seq ?_
 refine k_region rfl ?_
 refine a_opd ?_
 refine a_opd ?_
 refine a_calld [] false (NumR_good Γ q.k) ?_
 refine a_opd ?_
 refine a_opd ?_
 refine a_calld [] false (NumR_good Γ q.d) ?_
 refine a_opd ?_
 refine a_opd ?_
 refine a_calld [] false (NumR_good Γ q.n) ?_
 refine a_opd ?_
 refine a_opd ?_
 refine a_calld [] false (TextR_good Γ q.b) ?_
 refine a_opd ?_
 refine a_calld [.r 1 12 0] true (ListR_good Γ [.mk 1 q.k [] [], .mk 1 q.d [] [], .mk 1 q.n [] [], .mk 2 0 q.b []]) ?_
 refine a_calld [] false (PutR_good Γ (rqW q.k q.d q.n q.b) (by rw [rqW_sz]; omega) (fun h => by have := rq_len (q := q) h; exact Nat.le_trans this (by omega))) ?_
 refine a_opd ?_
 refine s_nil (r_true (by kernel_rfl) ?_)
 refine q_next ?_
 refine k_ret ?_
 refine ⟨.inr rfl, a_ret [] (by rw [results15]) ?_ ?_ ?_⟩ <;> simp [-List.map_set, -List.map_replicate, -List.reduceReplicate, -List.map_map, -List.map_drop, -List.map_take, num, bol, txt, w8, w16, w32, w64, lst, cls, rowO, boxO, List.take_of_length_le, Wr.cellsL_len, wA, Wr.k_mk, Wr.n_mk, Wr.s_mk, Wr.l_mk, Wr.cellsL, Wr.z_eq, Rq.p, Rq.w]

theorem rpPutR_good (Γ : Gl) (q : Rp) (hq : tsz q.l ≤ 10000000) (hl : q.l.length ≤ 900000) : Go.Ot.Good Γ prog 25 [pA q] [] (.t (txt q.p)) [] [] := by
 refine a_body F.mix func25 (by rfl) ntmps25 ?_
 refine k_seq ?_
 refine k_region rfl ?_
 refine a_op ?_
 refine a_op ?_
 refine s_nil (r_false ?_)
 refine q_next ?_
 refine k_seq ?_
 refine k_region rfl ?_
 refine a_opd ?_
 refine a_opd ?_
 refine a_calld [] false (NumR_good Γ q.k) ?_
 refine a_opd ?_
 refine a_opd ?_
 refine a_calld [] false (NumR_good Γ q.d) ?_
 refine a_opd ?_
 refine a_opd ?_
 refine a_calld [] false (NumR_good Γ q.n) ?_
 refine a_opd ?_
 refine a_opd ?_
 refine a_calld [] true (TextList_good Γ q.l (by omega)) ?_
 refine a_opd ?_
 refine a_calld [.r 1 12 0] true (ListR_good Γ [.mk 1 q.k [] [], .mk 1 q.d [] [], .mk 1 q.n [] [], .mk 3 0 [] (txtsW q.l)]) ?_
 refine a_calld [] false (PutR_good Γ (rpW q.k q.d q.n q.l) (by rw [rpW_sz]; omega) (fun h => by have := rp_len (q := q) h; exact Nat.le_trans this (by omega))) ?_
 refine a_opd ?_
 refine s_nil (r_true (by kernel_rfl) ?_)
 refine q_next ?_
 refine k_ret ?_
 refine ⟨.inr rfl, a_ret [] (by rw [results25]) ?_ ?_ ?_⟩ <;> simp [-List.map_set, -List.map_replicate, -List.reduceReplicate, -List.map_map, -List.map_drop, -List.map_take, num, bol, txt, w8, w16, w32, w64, lst, cls, rowO, boxO, List.take_of_length_le, Wr.cellsL_len, wA, Wr.k_mk, Wr.n_mk, Wr.s_mk, Wr.l_mk, Wr.cellsL, Wr.z_eq, Rp.p, Rp.w]

end Go.Proofs.Tryz
