/- Contracts of this program's functions. -/
import Derived.Test.YtkbikblijipceaaGreatDoorSC0
set_option maxHeartbeats 4000000
set_option maxRecDepth 100000
set_option linter.unusedVariables false
set_option linter.unusedSimpArgs false
namespace Go.Proofs.Tryz
open Go Go.Ot
attribute [local irreducible] wpK wpS seqK blockK loopF regK meetK OpSpec Le rdS lpW rdW got mayS mayW ixF putS putW nb u64
theorem clone_cons (Γ : Gl) (k n : Int) (s : List UInt8) (c l : List Wr) (hl : l.length < 1000000) : Go.Ot.Good Γ prog 147 [wS (.mk k n s c :: l)] [] (.msl (.n 0) 0 (l.length + 1) 4) [] [rowW (.mk k n s c :: l)] := by
 refine a_body F.mix func147 (by rfl) ntmps147 ?_
 refine k_seq ?_
 refine k_region rfl ?_
 refine a_op ?_
 refine s_nil (r_false ?_)
 refine q_next ?_
 refine k_seq ?_
 refine k_seq ?_
 refine k_region rfl ?_
 refine a_op ?_
 refine a_op ?_
 refine s_nil (r_false ?_)
 refine q_next ?_
 refine a_false ?_
 refine k_skip ?_
 refine q_next ?_
 refine k_seq ?_
 refine k_region rfl ?_
 iterate 4 refine a_op ?_
 refine s_nil (r_false ?_)
 refine q_next ?_
 refine k_ret ?_
 refine ⟨.inr rfl, a_ret [(.n 0, .r 3 0 0)] (by rw [results147]) ?_ ?_ ?_⟩ <;> simp [-List.map_set, -List.map_replicate, -List.reduceReplicate, -List.map_map, -List.map_drop, -List.map_take, num, bol, txt, w8, w16, w32, w64, lst, cls, rowO, boxO, List.take_of_length_le, rowW, Wr.cellsL_len, wA, Wr.k_mk, Wr.n_mk, Wr.s_mk, Wr.l_mk, Wr.cellsL, Wr.z_eq, cellsL_cons', wS]

theorem clone_nil (Γ : Gl) (c : Nat) : Go.Ot.Good Γ prog 147 [.t (.v (.slice none 0 c))] [] (.msl (.n 0) 0 0 4) [] [rowW []] := by
 refine a_body F.mix func147 (by rfl) ntmps147 ?_
 refine k_seq ?_
 refine k_region rfl ?_
 refine a_op ?_
 refine s_nil (r_false ?_)
 refine q_next ?_
 refine k_seq ?_
 refine k_seq ?_
 refine k_region rfl ?_
 refine a_op ?_
 refine a_op ?_
 refine s_nil (r_false ?_)
 refine q_next ?_
 refine a_true ?_
 refine k_seq ?_
 refine k_region rfl ?_
 refine a_op ?_
 refine s_nil (r_false ?_)
 refine q_next ?_
 refine k_ret ?_
 refine q_seq_ret ?_
 refine ⟨.inr rfl, a_ret [] (by rw [results147]) ?_ ?_ ?_⟩ <;> simp [-List.map_set, -List.map_replicate, -List.reduceReplicate, -List.map_map, -List.map_drop, -List.map_take, num, bol, txt, w8, w16, w32, w64, lst, cls, rowO, boxO, List.take_of_length_le, rowW, Wr.cellsL_len, wA, Wr.k_mk, Wr.n_mk, Wr.s_mk, Wr.l_mk, Wr.cellsL, Wr.z_eq, cellsL_cons', wS]

theorem clone_empty (Γ : Gl) (A : Addr) (c : Nat) : Go.Ot.Good Γ prog 147 [.t (.v (.slice (some A) 0 c))] [] (.msl (.n 0) 0 0 4) [] [rowW []] := by
 refine a_body F.mix func147 (by rfl) ntmps147 ?_
 refine k_seq ?_
 refine k_region rfl ?_
 refine a_op ?_
 refine s_nil (r_false ?_)
 refine q_next ?_
 refine k_seq ?_
 refine k_seq ?_
 refine k_region rfl ?_
 refine a_op ?_
 refine a_op ?_
 refine s_nil (r_false ?_)
 refine q_next ?_
 refine a_false ?_
 refine k_skip ?_
 refine q_next ?_
 refine k_seq ?_
 refine k_region rfl ?_
 iterate 4 refine a_op ?_
 refine s_nil (r_false ?_)
 refine q_next ?_
 refine k_ret ?_
 refine ⟨.inr rfl, a_ret [(.n 0, .r 3 0 0)] (by rw [results147]) ?_ ?_ ?_⟩ <;> simp [-List.map_set, -List.map_replicate, -List.reduceReplicate, -List.map_map, -List.map_drop, -List.map_take, num, bol, txt, w8, w16, w32, w64, lst, cls, rowO, boxO, List.take_of_length_le, rowW, Wr.cellsL_len, wA, Wr.k_mk, Wr.n_mk, Wr.s_mk, Wr.l_mk, Wr.cellsL, Wr.z_eq, cellsL_cons', wS]

theorem clone_good (Γ : Gl) (l : List Wr) (hl : l.length ≤ 1000000) : Go.Ot.Good Γ prog 147 [wS l] [] (.msl (.n 0) 0 l.length 4) [] [rowW l] := by
 cases l with
 | nil =>
  refine good_empty (pre := []) (post := []) (fun A c hc => ?_)
  cases A with
  | none => exact clone_nil Γ c
  | some A => exact clone_empty Γ A c
 | cons a l =>
  obtain ⟨k, n, s, c⟩ := a
  exact clone_cons Γ k n s c l (by simp at hl; omega)
theorem copied_step (Γ : Gl) (w : Wr) (hw : w.l.length ≤ 1000000) (IH : ∀ v ∈ w.l, Go.Ot.Good Γ prog 115 [wA v] [] (wA v) [] []) : Go.Ot.Good Γ prog 115 [wA w] [] (wA w) [] [] := by
 refine a_body F.mix func115 (by rfl) ntmps115 ?_
 refine k_seq ?_
 refine k_region rfl ?_
 refine a_op ?_
 refine a_op ?_
 refine s_nil (r_false ?_)
 refine q_next ?_
 refine k_seq ?_
 refine k_region rfl ?_
 refine a_op ?_
 refine a_op ?_
 refine a_call [] true (clone_good Γ w.l hw) ?_
 refine a_op ?_
 refine a_op ?_
 refine s_nil (r_false ?_)
 refine q_next ?_
 refine k_seq ?_
 refine k_seq ?_
 refine k_region rfl ?_
 iterate 4 refine a_op ?_
 refine s_nil (r_false ?_)
 refine q_next ?_
 refine k_block ?_
 refine k_loopF (fun sl L (i : Nat) => ⟨setAll (setBad sl [0, 3, 4, 5, 6, 7, 8, 9, 13, 14, 15, 16, 17, 18, 19, 20, 21, 22, 23]) [(12, .t (num i))], Go.Ot.look (L)⟩) (fun i => i ≤ w.l.length) (fun i => w.l.length - i) (0) (a_le ?_) ?_ ?_
 ·refine le_of [(.r 0 0 0, .r 0 0 0), (.r 0 1 0, .r 0 1 0), (.r 1 2 0, .r 1 2 0)] ?_ ?_ ?_ <;> simp [-List.map_set, -List.map_replicate, -List.reduceReplicate, -List.map_map, -List.map_drop, -List.map_take, num, bol, txt, w8, w16, w32, w64, lst, cls, rowO, boxO, List.take_of_length_le, Wr.cellsL_len, wA, Wr.k_mk, Wr.n_mk, Wr.s_mk, Wr.l_mk, Wr.cellsL, Wr.z_eq]
 ·(first | omega | simp)
 ·intro i hi
  refine a_st ?_
  refine k_seq ?_
  refine k_region rfl ?_
  refine a_op ?_
  refine s_nil (r_false ?_)
  refine q_next ?_
  refine k_seq ?_
  refine a_if (fun hc0 => ?_) (fun hc0 => ?_)
  ·(try simp only [Bool.and_eq_true, Bool.or_eq_true, Bool.or_eq_false_iff, Bool.not_eq_true', Bool.not_eq_false', dec_t, dec_f, Bool.and_eq_false_imp, beq_iff_eq, beq_eq_false_iff_ne, ne_eq] at hc0)
   refine k_skip ?_
   refine q_next ?_
   refine k_seq ?_
   refine k_block ?_
   refine k_seq ?_
   refine k_region rfl ?_
   iterate 6 refine a_op ?_
   refine s_nil (r_false ?_)
   refine q_next ?_
   refine k_region rfl ?_
   iterate 4 refine a_opd ?_
   refine a_callpd [] [] [] true (IH (w.l.getD i default) (mem_getD (by omega))) ?_
   refine a_opd ?_
   refine a_opd ?_
   refine s_nil (r_true (by kernel_rfl) ?_)
   refine q_block (q_next ?_)
   refine k_region rfl ?_
   refine a_op ?_
   refine a_op ?_
   refine s_nil (r_false ?_)
   refine q_loopF (i + 1) (a_le ?_) ?_ ?_
   ·refine le_of [(.r 0 0 0, .r 0 0 0), (.r 0 1 0, .r 0 1 0), (.r 1 2 0, .r 1 2 0)] ?_ ?_ ?_ <;> simp [-List.map_set, -List.map_replicate, -List.reduceReplicate, -List.map_map, -List.map_drop, -List.map_take, num, bol, txt, w8, w16, w32, w64, lst, cls, rowO, boxO, List.take_of_length_le, Wr.cellsL_len, wA, Wr.k_mk, Wr.n_mk, Wr.s_mk, Wr.l_mk, Wr.cellsL, Wr.z_eq]
   ·(first | omega | (simp_all <;> omega))
   ·(first | omega | (simp only []; omega))
  ·(try simp only [Bool.and_eq_true, Bool.or_eq_true, Bool.or_eq_false_iff, Bool.not_eq_true', Bool.not_eq_false', dec_t, dec_f, Bool.and_eq_false_imp, beq_iff_eq, beq_eq_false_iff_ne, ne_eq] at hc0)
   refine k_exit ?_
   refine q_seq_exit (q_loopF_exit (q_block_exit (q_next ?_)))
   refine k_seq ?_
   refine k_region rfl ?_
   refine a_op ?_
   refine a_op ?_
   refine s_nil (r_false ?_)
   refine q_next ?_
   refine k_ret ?_
   refine ⟨.inr rfl, a_ret [] (by rw [results115]) ?_ ?_ ?_⟩ <;> simp [-List.map_set, -List.map_replicate, -List.reduceReplicate, -List.map_map, -List.map_drop, -List.map_take, num, bol, txt, w8, w16, w32, w64, lst, cls, rowO, boxO, List.take_of_length_le, Wr.cellsL_len, wA, Wr.k_mk, Wr.n_mk, Wr.s_mk, Wr.l_mk, Wr.cellsL, Wr.z_eq]

theorem copied_good (Γ : Gl) : ∀ (N : Nat) (w : Wr), w.sz ≤ N → N ≤ 1000000 → Go.Ot.Good Γ prog 115 [wA w] [] (wA w) [] []
 | 0, w, h, _ => by have := w.sz_pos; omega
 | N + 1, w, h, h2 => copied_step Γ w (by cases w with | mk k n s l => have := sz_l k n s l; simp only [Wr.l_mk]; omega) (fun v hv => copied_good Γ N v (by have := Wr.sz_sub hv; omega) (by omega))
theorem List_good (Γ : Gl) (l : List Wr) (hl : Wr.szL l ≤ 1000000) : Go.Ot.Good Γ prog 63 [wS l] [] (wA (.mk 3 0 [] l)) [] [] := by
 have hll := sz_len l
 refine a_body F.mix func63 (by rfl) ntmps63 ?_
 refine k_seq ?_
 refine k_region rfl ?_
 refine a_op ?_
 refine s_nil (r_false ?_)
 refine q_next ?_
 refine k_seq ?_
 refine k_region rfl ?_
 iterate 3 refine a_op ?_
 refine s_nil (r_false ?_)
 refine q_next ?_
 refine k_seq ?_
 refine k_seq ?_
 refine k_region rfl ?_
 iterate 3 refine a_op ?_
 refine s_nil (r_false ?_)
 refine q_next ?_
 refine k_block ?_
 refine k_loopF (fun sl L (i : Nat) => ⟨setAll (setBad sl [0, 5, 6, 10, 11, 12, 13, 14, 15, 16, 17, 18, 19, 20]) [(9, .t (num i))], Go.Ot.look (putL (.r 1 1 0) (boxO 94 [.t (num 3), .t (num 0), .t (txt []), .msl (.n 9) 0 i 4]) (putL (.n 9) (rowW (l.take i)) L))⟩) (fun i => i ≤ l.length) (fun i => l.length - i) (0) (a_le ?_) ?_ ?_
 ·refine le_of [(.r 0 0 0, .r 0 0 0), (.r 1 1 0, .r 1 1 0)] ?_ ?_ ?_ <;> simp [-List.map_set, -List.map_replicate, -List.reduceReplicate, -List.map_map, -List.map_drop, -List.map_take, num, bol, txt, w8, w16, w32, w64, lst, cls, rowO, boxO, List.take_of_length_le, Wr.cellsL_len, wA, Wr.k_mk, Wr.n_mk, Wr.s_mk, Wr.l_mk, Wr.cellsL, Wr.z_eq, wS, rowW, List.take_zero]
 ·(first | omega | simp)
 ·intro i hi
  refine a_st ?_
  refine k_seq ?_
  refine k_region rfl ?_
  refine a_op ?_
  refine s_nil (r_false ?_)
  refine q_next ?_
  refine k_seq ?_
  refine a_if (fun hc0 => ?_) (fun hc0 => ?_)
  ·(try simp only [Bool.and_eq_true, Bool.or_eq_true, Bool.or_eq_false_iff, Bool.not_eq_true', Bool.not_eq_false', dec_t, dec_f, Bool.and_eq_false_imp, beq_iff_eq, beq_eq_false_iff_ne, ne_eq] at hc0)
   refine k_skip ?_
   refine q_next ?_
   refine k_seq ?_
   refine k_block ?_
   refine k_seq ?_
   refine k_region rfl ?_
   refine a_op ?_
   refine a_op (hc := by (rw [List.length_drop, Wr.cellsL_len]; omega)) ?_
   refine a_op ?_
   refine a_op ?_
   refine s_nil (r_false ?_)
   refine q_next ?_
   refine g_start (.n 9) [14] [.r 1 1 0] rfl ?_
   refine g_op ?_
   refine g_op ?_
   refine g_op ?_
   refine g_callp [] [] [] true (copied_good Γ 1000000 (l.getD i default) (by have := Wr.sz_mem (mem_getD (l := l) (i := i) (by omega)); omega) (by omega)) ?_
   refine g_op ?_
   refine g_op ?_
   refine g_op ?_
   refine g_op ?_
   refine g_nil ⟨g_ok (by kernel_rfl) (by kernel_rfl), ?_⟩
   refine q_block (q_next ?_)
   refine k_region rfl ?_
   refine a_op ?_
   refine a_op ?_
   refine s_nil (r_false ?_)
   refine q_loopF (i + 1) (a_le ?_) ?_ ?_
   ·refine le_of [(.r 0 0 0, .r 0 0 0), (.r 1 1 0, .r 1 1 0), (.n 9, .n 9)] ?_ ?_ ?_ <;> simp [-List.map_set, -List.map_replicate, -List.reduceReplicate, -List.map_map, -List.map_drop, -List.map_take, num, bol, txt, w8, w16, w32, w64, lst, cls, rowO, boxO, List.take_of_length_le, Wr.cellsL_len, wA, Wr.k_mk, Wr.n_mk, Wr.s_mk, Wr.l_mk, Wr.cellsL, Wr.z_eq, wS, rowW, cells_next (l := l) (i := i) (by omega)]
   ·(first | omega | (simp_all <;> omega))
   ·(first | omega | (simp only []; omega))
  ·(try simp only [Bool.and_eq_true, Bool.or_eq_true, Bool.or_eq_false_iff, Bool.not_eq_true', Bool.not_eq_false', dec_t, dec_f, Bool.and_eq_false_imp, beq_iff_eq, beq_eq_false_iff_ne, ne_eq] at hc0)
   refine k_exit ?_
   refine q_seq_exit (q_loopF_exit (q_block_exit (q_next ?_)))
   refine k_seq ?_
   refine k_region rfl ?_
   obtain rfl : i = l.length := by omega
   refine a_op ?_
   refine a_op ?_
   refine s_nil (r_false ?_)
   refine q_next ?_
   refine k_ret ?_
   refine ⟨.inr rfl, a_ret [] (by rw [results63]) ?_ ?_ ?_⟩ <;> simp [-List.map_set, -List.map_replicate, -List.reduceReplicate, -List.map_map, -List.map_drop, -List.map_take, num, bol, txt, w8, w16, w32, w64, lst, cls, rowO, boxO, List.take_of_length_le, Wr.cellsL_len, wA, Wr.k_mk, Wr.n_mk, Wr.s_mk, Wr.l_mk, Wr.cellsL, Wr.z_eq, wS, rowW, List.take_length]

theorem Num_good (Γ : Gl) (n : Int) : Go.Ot.Good Γ prog 64 [.t (num n)] [] (wA (.mk 1 n [] [])) [] [] := by
 refine a_body F.mix func64 (by rfl) ntmps64 ?_
 refine k_seq ?_
 refine k_region rfl ?_
 refine a_op ?_
 refine s_nil (r_false ?_)
 refine q_next ?_
 refine k_seq ?_
 refine k_region rfl ?_
 iterate 3 refine a_op ?_
 refine s_nil (r_false ?_)
 refine q_next ?_
 refine k_ret ?_
 refine ⟨.inr rfl, a_ret [] (by rw [results64]) ?_ ?_ ?_⟩ <;> simp [-List.map_set, -List.map_replicate, -List.reduceReplicate, -List.map_map, -List.map_drop, -List.map_take, num, bol, txt, w8, w16, w32, w64, lst, cls, rowO, boxO, List.take_of_length_le, Wr.cellsL_len, wA, Wr.k_mk, Wr.n_mk, Wr.s_mk, Wr.l_mk, Wr.cellsL, Wr.z_eq]

theorem Text_good (Γ : Gl) (s : List UInt8) : Go.Ot.Good Γ prog 67 [.t (txt s)] [] (wA (.mk 2 0 s [])) [] [] := by
 refine a_body F.mix func67 (by rfl) ntmps67 ?_
 refine k_seq ?_
 refine k_region rfl ?_
 refine a_op ?_
 refine s_nil (r_false ?_)
 refine q_next ?_
 refine k_seq ?_
 refine k_region rfl ?_
 iterate 3 refine a_op ?_
 refine s_nil (r_false ?_)
 refine q_next ?_
 refine k_ret ?_
 refine ⟨.inr rfl, a_ret [] (by rw [results67]) ?_ ?_ ?_⟩ <;> simp [-List.map_set, -List.map_replicate, -List.reduceReplicate, -List.map_map, -List.map_drop, -List.map_take, num, bol, txt, w8, w16, w32, w64, lst, cls, rowO, boxO, List.take_of_length_le, Wr.cellsL_len, wA, Wr.k_mk, Wr.n_mk, Wr.s_mk, Wr.l_mk, Wr.cellsL, Wr.z_eq]

end Go.Proofs.Tryz
