/- Contracts of this program's functions. -/
import Derived.Test.YtkbikblijipceaaGreatDoorSRL0
set_option maxHeartbeats 4000000
set_option maxRecDepth 100000
set_option linter.unusedVariables false
set_option linter.unusedSimpArgs false
namespace Go.Proofs.Tryz
open Go Go.Ot
attribute [local irreducible] wpK wpS seqK blockK loopF regK meetK OpSpec Le newB
theorem cloneS_c (Γ : Gl) (a : List UInt8) (l : List (List UInt8)) (hl : l.length < 1000000) : Go.Ot.Good Γ prog 87 [.t (lst txt (a :: l))] [] (.t (lst txt (a :: l))) [] [] := by
 refine a_body F.mix func87 (by rfl) ntmps87 ?_
 refine k_seq ?_
 refine k_region rfl ?_
 refine a_op ?_
 refine s_nil (r_false ?_)
 refine q_next ?_
 refine k_seq ?_
 refine k_seq ?_
 refine k_region rfl ?_
 refine a_op ?_
 refine a_op ?_
 refine s_nil (r_false ?_)
 refine q_next ?_
 refine a_false ?_
 refine k_skip ?_
 refine q_next ?_
 refine k_seq ?_
 refine k_region rfl ?_
 iterate 4 refine a_op ?_
 refine s_nil (r_false ?_)
 refine q_next ?_
 refine k_ret ?_
 refine ⟨.inr rfl, a_ret [] (by rw [results87]) ?_ ?_ ?_⟩ <;> simp [-List.map_set, -List.map_replicate, -List.reduceReplicate, -List.map_map, -List.map_drop, -List.map_take, num, bol, txt, w8, w16, w32, w64, lst, cls, rowO, boxO, List.take_of_length_le, Wr.cellsL_len, wA, Wr.k_mk, Wr.n_mk, Wr.s_mk, Wr.l_mk, Wr.cellsL, Wr.z_eq, mbT]

theorem cloneS_n (Γ : Gl) (c : Nat) : Go.Ot.Good Γ prog 87 [.t (.v (.slice none 0 c))] [] (.t (lst txt [])) [] [] := by
 refine a_body F.mix func87 (by rfl) ntmps87 ?_
 refine k_seq ?_
 refine k_region rfl ?_
 refine a_op ?_
 refine s_nil (r_false ?_)
 refine q_next ?_
 refine k_seq ?_
 refine k_seq ?_
 refine k_region rfl ?_
 refine a_op ?_
 refine a_op ?_
 refine s_nil (r_false ?_)
 refine q_next ?_
 refine a_true ?_
 refine k_seq ?_
 refine k_region rfl ?_
 refine a_op ?_
 refine s_nil (r_false ?_)
 refine q_next ?_
 refine k_ret ?_
 refine q_seq_ret ?_
 refine ⟨.inr rfl, a_ret [] (by rw [results87]) ?_ ?_ ?_⟩ <;> simp [-List.map_set, -List.map_replicate, -List.reduceReplicate, -List.map_map, -List.map_drop, -List.map_take, num, bol, txt, w8, w16, w32, w64, lst, cls, rowO, boxO, List.take_of_length_le, Wr.cellsL_len, wA, Wr.k_mk, Wr.n_mk, Wr.s_mk, Wr.l_mk, Wr.cellsL, Wr.z_eq, mbT]

theorem cloneS_e (Γ : Gl) (A : Addr) (c : Nat) : Go.Ot.Good Γ prog 87 [.t (.v (.slice (some A) 0 c))] [] (.t (lst txt [])) [] [] := by
 refine a_body F.mix func87 (by rfl) ntmps87 ?_
 refine k_seq ?_
 refine k_region rfl ?_
 refine a_op ?_
 refine s_nil (r_false ?_)
 refine q_next ?_
 refine k_seq ?_
 refine k_seq ?_
 refine k_region rfl ?_
 refine a_op ?_
 refine a_op ?_
 refine s_nil (r_false ?_)
 refine q_next ?_
 refine a_false ?_
 refine k_skip ?_
 refine q_next ?_
 refine k_seq ?_
 refine k_region rfl ?_
 iterate 4 refine a_op ?_
 refine s_nil (r_false ?_)
 refine q_next ?_
 refine k_ret ?_
 refine ⟨.inr rfl, a_ret [] (by rw [results87]) ?_ ?_ ?_⟩ <;> simp [-List.map_set, -List.map_replicate, -List.reduceReplicate, -List.map_map, -List.map_drop, -List.map_take, num, bol, txt, w8, w16, w32, w64, lst, cls, rowO, boxO, List.take_of_length_le, Wr.cellsL_len, wA, Wr.k_mk, Wr.n_mk, Wr.s_mk, Wr.l_mk, Wr.cellsL, Wr.z_eq, mbT]

theorem cloneS_good (Γ : Gl) (l : List (List UInt8)) (hl : l.length ≤ 1000000) : Go.Ot.Good Γ prog 87 [.t (lst txt l)] [] (.t (lst txt l)) [] [] := by
 cases l with
 | nil =>
  refine good_empty (pre := []) (post := []) (fun A c hc => ?_)
  cases A with
  | none => exact cloneS_n Γ c
  | some A => exact cloneS_e Γ A c
 | cons a l => exact cloneS_c Γ a l (by simp at hl; omega)
theorem cloneI_c (Γ : Gl) (a : Int) (l : List Int) (hl : l.length < 1000000) : Go.Ot.Good Γ prog 88 [.t (lst num (a :: l))] [] (.t (lst num (a :: l))) [] [] := by
 refine a_body F.mix func88 (by rfl) ntmps88 ?_
 refine k_seq ?_
 refine k_region rfl ?_
 refine a_op ?_
 refine s_nil (r_false ?_)
 refine q_next ?_
 refine k_seq ?_
 refine k_seq ?_
 refine k_region rfl ?_
 refine a_op ?_
 refine a_op ?_
 refine s_nil (r_false ?_)
 refine q_next ?_
 refine a_false ?_
 refine k_skip ?_
 refine q_next ?_
 refine k_seq ?_
 refine k_region rfl ?_
 iterate 4 refine a_op ?_
 refine s_nil (r_false ?_)
 refine q_next ?_
 refine k_ret ?_
 refine ⟨.inr rfl, a_ret [] (by rw [results88]) ?_ ?_ ?_⟩ <;> simp [-List.map_set, -List.map_replicate, -List.reduceReplicate, -List.map_map, -List.map_drop, -List.map_take, num, bol, txt, w8, w16, w32, w64, lst, cls, rowO, boxO, List.take_of_length_le, Wr.cellsL_len, wA, Wr.k_mk, Wr.n_mk, Wr.s_mk, Wr.l_mk, Wr.cellsL, Wr.z_eq, mbT]

theorem cloneI_n (Γ : Gl) (c : Nat) : Go.Ot.Good Γ prog 88 [.t (.v (.slice none 0 c))] [] (.t (lst num [])) [] [] := by
 refine a_body F.mix func88 (by rfl) ntmps88 ?_
 refine k_seq ?_
 refine k_region rfl ?_
 refine a_op ?_
 refine s_nil (r_false ?_)
 refine q_next ?_
 refine k_seq ?_
 refine k_seq ?_
 refine k_region rfl ?_
 refine a_op ?_
 refine a_op ?_
 refine s_nil (r_false ?_)
 refine q_next ?_
 refine a_true ?_
 refine k_seq ?_
 refine k_region rfl ?_
 refine a_op ?_
 refine s_nil (r_false ?_)
 refine q_next ?_
 refine k_ret ?_
 refine q_seq_ret ?_
 refine ⟨.inr rfl, a_ret [] (by rw [results88]) ?_ ?_ ?_⟩ <;> simp [-List.map_set, -List.map_replicate, -List.reduceReplicate, -List.map_map, -List.map_drop, -List.map_take, num, bol, txt, w8, w16, w32, w64, lst, cls, rowO, boxO, List.take_of_length_le, Wr.cellsL_len, wA, Wr.k_mk, Wr.n_mk, Wr.s_mk, Wr.l_mk, Wr.cellsL, Wr.z_eq, mbT]

theorem cloneI_e (Γ : Gl) (A : Addr) (c : Nat) : Go.Ot.Good Γ prog 88 [.t (.v (.slice (some A) 0 c))] [] (.t (lst num [])) [] [] := by
 refine a_body F.mix func88 (by rfl) ntmps88 ?_
 refine k_seq ?_
 refine k_region rfl ?_
 refine a_op ?_
 refine s_nil (r_false ?_)
 refine q_next ?_
 refine k_seq ?_
 refine k_seq ?_
 refine k_region rfl ?_
 refine a_op ?_
 refine a_op ?_
 refine s_nil (r_false ?_)
 refine q_next ?_
 refine a_false ?_
 refine k_skip ?_
 refine q_next ?_
 refine k_seq ?_
 refine k_region rfl ?_
 iterate 4 refine a_op ?_
 refine s_nil (r_false ?_)
 refine q_next ?_
 refine k_ret ?_
 refine ⟨.inr rfl, a_ret [] (by rw [results88]) ?_ ?_ ?_⟩ <;> simp [-List.map_set, -List.map_replicate, -List.reduceReplicate, -List.map_map, -List.map_drop, -List.map_take, num, bol, txt, w8, w16, w32, w64, lst, cls, rowO, boxO, List.take_of_length_le, Wr.cellsL_len, wA, Wr.k_mk, Wr.n_mk, Wr.s_mk, Wr.l_mk, Wr.cellsL, Wr.z_eq, mbT]

theorem cloneI_good (Γ : Gl) (l : List Int) (hl : l.length ≤ 1000000) : Go.Ot.Good Γ prog 88 [.t (lst num l)] [] (.t (lst num l)) [] [] := by
 cases l with
 | nil =>
  refine good_empty (pre := []) (post := []) (fun A c hc => ?_)
  cases A with
  | none => exact cloneI_n Γ c
  | some A => exact cloneI_e Γ A c
 | cons a l => exact cloneI_c Γ a l (by simp at hl; omega)
theorem cloneM_c (Γ : Gl) (a : Mb) (l : List Mb) (hl : l.length < 1000000) : Go.Ot.Good Γ prog 86 [.t (.sl (a :: l).length ((a :: l).flatMap mbT))] [] (.msl (.n 0) 0 (a :: l).length 2) [] [rowMb (a :: l)] := by
 refine a_body F.mix func86 (by rfl) ntmps86 ?_
 refine k_seq ?_
 refine k_region rfl ?_
 refine a_op ?_
 refine s_nil (r_false ?_)
 refine q_next ?_
 refine k_seq ?_
 refine k_seq ?_
 refine k_region rfl ?_
 refine a_op ?_
 refine a_op ?_
 refine s_nil (r_false ?_)
 refine q_next ?_
 refine a_false ?_
 refine k_skip ?_
 refine q_next ?_
 refine k_seq ?_
 refine k_region rfl ?_
 iterate 4 refine a_op ?_
 refine s_nil (r_false ?_)
 refine q_next ?_
 refine k_ret ?_
 refine ⟨.inr rfl, a_ret [(.n 0, .r 3 0 0)] (by rw [results86]) ?_ ?_ ?_⟩ <;> simp [-List.map_set, -List.map_replicate, -List.reduceReplicate, -List.map_map, -List.map_drop, -List.map_take, num, bol, txt, w8, w16, w32, w64, lst, cls, rowO, boxO, List.take_of_length_le, Wr.cellsL_len, wA, Wr.k_mk, Wr.n_mk, Wr.s_mk, Wr.l_mk, Wr.cellsL, Wr.z_eq, mbT, rowMb]

theorem cloneM_n (Γ : Gl) (c : Nat) : Go.Ot.Good Γ prog 86 [.t (.v (.slice none 0 c))] [] (.msl (.n 0) 0 0 2) [] [rowMb []] := by
 refine a_body F.mix func86 (by rfl) ntmps86 ?_
 refine k_seq ?_
 refine k_region rfl ?_
 refine a_op ?_
 refine s_nil (r_false ?_)
 refine q_next ?_
 refine k_seq ?_
 refine k_seq ?_
 refine k_region rfl ?_
 refine a_op ?_
 refine a_op ?_
 refine s_nil (r_false ?_)
 refine q_next ?_
 refine a_true ?_
 refine k_seq ?_
 refine k_region rfl ?_
 refine a_op ?_
 refine s_nil (r_false ?_)
 refine q_next ?_
 refine k_ret ?_
 refine q_seq_ret ?_
 refine ⟨.inr rfl, a_ret [] (by rw [results86]) ?_ ?_ ?_⟩ <;> simp [-List.map_set, -List.map_replicate, -List.reduceReplicate, -List.map_map, -List.map_drop, -List.map_take, num, bol, txt, w8, w16, w32, w64, lst, cls, rowO, boxO, List.take_of_length_le, Wr.cellsL_len, wA, Wr.k_mk, Wr.n_mk, Wr.s_mk, Wr.l_mk, Wr.cellsL, Wr.z_eq, mbT, rowMb]

theorem cloneM_e (Γ : Gl) (A : Addr) (c : Nat) : Go.Ot.Good Γ prog 86 [.t (.v (.slice (some A) 0 c))] [] (.msl (.n 0) 0 0 2) [] [rowMb []] := by
 refine a_body F.mix func86 (by rfl) ntmps86 ?_
 refine k_seq ?_
 refine k_region rfl ?_
 refine a_op ?_
 refine s_nil (r_false ?_)
 refine q_next ?_
 refine k_seq ?_
 refine k_seq ?_
 refine k_region rfl ?_
 refine a_op ?_
 refine a_op ?_
 refine s_nil (r_false ?_)
 refine q_next ?_
 refine a_false ?_
 refine k_skip ?_
 refine q_next ?_
 refine k_seq ?_
 refine k_region rfl ?_
 iterate 4 refine a_op ?_
 refine s_nil (r_false ?_)
 refine q_next ?_
 refine k_ret ?_
 refine ⟨.inr rfl, a_ret [(.n 0, .r 3 0 0)] (by rw [results86]) ?_ ?_ ?_⟩ <;> simp [-List.map_set, -List.map_replicate, -List.reduceReplicate, -List.map_map, -List.map_drop, -List.map_take, num, bol, txt, w8, w16, w32, w64, lst, cls, rowO, boxO, List.take_of_length_le, Wr.cellsL_len, wA, Wr.k_mk, Wr.n_mk, Wr.s_mk, Wr.l_mk, Wr.cellsL, Wr.z_eq, mbT, rowMb]

theorem cloneM_good (Γ : Gl) (l : List Mb) (hl : l.length ≤ 1000000) : Go.Ot.Good Γ prog 86 [.t (.sl l.length (l.flatMap mbT))] [] (.msl (.n 0) 0 l.length 2) [] [rowMb l] := by
 cases l with
 | nil =>
  refine good_empty (pre := []) (post := []) (fun A c hc => ?_)
  cases A with
  | none => exact cloneM_n Γ c
  | some A => exact cloneM_e Γ A c
 | cons a l => exact cloneM_c Γ a l (by simp at hl; omega)
theorem copied_r (Γ : Gl) (r : Rl) (hr : rlS r) : Go.Ot.Good Γ prog 35 [.agg [.t (.sl r.boxes.length (r.boxes.flatMap mbT)), .t (lst txt r.log), .t (txt r.snap), .t (num r.shares), .t (lst num r.last)]] [] (.agg [.t (.sl r.boxes.length (r.boxes.flatMap mbT)), .t (lst txt r.log), .t (txt r.snap), .t (num r.shares), .t (lst num r.last)]) [] [] := by
 obtain ⟨hb, hm, hg, hn⟩ := hr
 refine a_body F.mix func35 (by rfl) ntmps35 ?_
 refine k_seq ?_
 refine k_region rfl ?_
 refine a_op ?_
 refine a_op ?_
 refine s_nil (r_false ?_)
 refine q_next ?_
 refine k_seq ?_
 refine k_region rfl ?_
 refine a_opd ?_
 refine a_opd ?_
 refine a_calld [] true (cloneM_good Γ r.boxes (by omega)) ?_
 refine a_opd ?_
 refine a_opd ?_
 refine a_calld [] true (cloneS_good Γ r.log hg) ?_
 refine a_opd ?_
 refine a_opd ?_
 refine a_calld [] true (cloneI_good Γ r.last hn) ?_
 iterate 6 refine a_opd ?_
 refine s_nil (r_true (by kernel_rfl) ?_)
 refine q_next ?_
 refine k_seq ?_
 refine k_seq ?_
 refine k_region rfl ?_
 iterate 4 refine a_op ?_
 refine s_nil (r_false ?_)
 refine q_next ?_
 refine k_block ?_
 refine k_loopF (fun sl L (i : Nat) => ⟨setAll (setBad sl [0, 3, 4, 5, 6, 7, 8, 9, 10, 11, 12, 13, 14, 15, 16, 17, 20, 21, 22, 23, 24, 25, 26, 27, 28, 29, 30, 31, 32, 33, 34]) [(19, .t (num i))], Go.Ot.look (L)⟩) (fun i => i ≤ r.boxes.length) (fun i => r.boxes.length - i) (0) (a_le ?_) ?_ ?_
 ·refine le_of [(.r 0 0 0, .r 0 0 0), (.r 0 1 0, .r 0 1 0), (.r 1 2 0, .r 1 2 0)] ?_ ?_ ?_ <;> simp [-List.map_set, -List.map_replicate, -List.reduceReplicate, -List.map_map, -List.map_drop, -List.map_take, num, bol, txt, w8, w16, w32, w64, lst, cls, rowO, boxO, List.take_of_length_le, Wr.cellsL_len, wA, Wr.k_mk, Wr.n_mk, Wr.s_mk, Wr.l_mk, Wr.cellsL, Wr.z_eq, mbT] <;> (try omega)
 ·(first | omega | simp)
 ·intro i hi
  refine a_st ?_
  refine k_seq ?_
  refine k_region rfl ?_
  refine a_op ?_
  refine s_nil (r_false ?_)
  refine q_next ?_
  refine k_seq ?_
  refine a_if (fun hc0 => ?_) (fun hc0 => ?_)
  ·(try simp only [Bool.and_eq_true, Bool.or_eq_true, Bool.or_eq_false_iff, Bool.not_eq_true', Bool.not_eq_false', dec_t, dec_f, Bool.and_eq_false_imp, beq_iff_eq, beq_eq_false_iff_ne, ne_eq] at hc0)
   refine k_skip ?_
   refine q_next ?_
   refine k_seq ?_
   refine k_block ?_
   refine k_seq ?_
   refine k_region rfl ?_
   refine a_op ?_
   refine a_op ?_
   refine s_nil (r_false ?_)
   refine q_next ?_
   refine k_region rfl ?_
   iterate 9 refine a_opd ?_
   have hib : i < r.boxes.length := by omega
   obtain ⟨m, he⟩ : ∃ m, r.boxes.getD i default = m := ⟨_, rfl⟩
   simp only [he]
   have hset := mb_same hib he
   refine a_calld [] true (cloneS_good Γ m.l (by rw [← he]; exact hm i)) ?_
   iterate 3 refine a_opd ?_
   refine s_nil (r_true (by kernel_rfl) ?_)
   refine q_block (q_next ?_)
   refine k_region rfl ?_
   refine a_op ?_
   refine a_op ?_
   refine s_nil (r_false ?_)
   refine q_loopF (i + 1) (a_le ?_) ?_ ?_
   ·refine le_of [(.r 0 0 0, .r 0 0 0), (.r 0 1 0, .r 0 1 0), (.r 1 2 0, .r 1 2 0)] ?_ ?_ ?_ <;> simp [-List.map_set, -List.map_replicate, -List.reduceReplicate, -List.map_map, -List.map_drop, -List.map_take, num, bol, txt, w8, w16, w32, w64, lst, cls, rowO, boxO, List.take_of_length_le, Wr.cellsL_len, wA, Wr.k_mk, Wr.n_mk, Wr.s_mk, Wr.l_mk, Wr.cellsL, Wr.z_eq, mbT, hset] <;> (try omega)
   ·(first | omega | (simp_all <;> omega))
   ·(first | omega | (simp only []; omega))
  ·(try simp only [Bool.and_eq_true, Bool.or_eq_true, Bool.or_eq_false_iff, Bool.not_eq_true', Bool.not_eq_false', dec_t, dec_f, Bool.and_eq_false_imp, beq_iff_eq, beq_eq_false_iff_ne, ne_eq] at hc0)
   refine k_exit ?_
   refine q_seq_exit (q_loopF_exit (q_block_exit (q_next ?_)))
   refine k_seq ?_
   refine k_region rfl ?_
   have hal := mb_all (l := r.boxes) rfl
   refine a_op ?_
   refine a_op ?_
   refine s_nil (r_false ?_)
   refine q_next ?_
   refine k_ret ?_
   refine ⟨.inr rfl, a_ret [] (by rw [results35]) ?_ ?_ ?_⟩ <;> simp [-List.map_set, -List.map_replicate, -List.reduceReplicate, -List.map_map, -List.map_drop, -List.map_take, num, bol, txt, w8, w16, w32, w64, lst, cls, rowO, boxO, List.take_of_length_le, Wr.cellsL_len, wA, Wr.k_mk, Wr.n_mk, Wr.s_mk, Wr.l_mk, Wr.cellsL, Wr.z_eq, mbT, hal, mbs_len, -List.length_flatMap]

theorem new3_good (Γ : Gl)  : Go.Ot.Good Γ prog 13 [.t (num 3)] [] (.agg [.t (.sl (newR 3).boxes.length ((newR 3).boxes.flatMap mbT)), .t (lst txt (newR 3).log), .t (txt (newR 3).snap), .t (num (newR 3).shares), .t (lst num (newR 3).last)]) [] [] := by
 refine a_body F.mix func13 (by rfl) ntmps13 ?_
 refine k_seq ?_
 refine k_region rfl ?_
 refine a_op ?_
 refine s_nil (r_false ?_)
 refine q_next ?_
 refine k_seq ?_
 refine k_region rfl ?_
 iterate 3 refine a_op ?_
 simp only [show (max (1 : Int) (min 3 8)) = 3 from by decide]
 refine a_op ?_
 refine s_nil (r_false ?_)
 refine q_next ?_
 refine k_seq ?_
 refine k_region rfl ?_
 iterate 7 refine a_opd ?_
 refine s_nil (r_true (by kernel_rfl) ?_)
 refine q_next ?_
 refine k_seq ?_
 refine k_seq ?_
 refine k_region rfl ?_
 iterate 4 refine a_op ?_
 refine s_nil (r_false ?_)
 refine q_next ?_
 refine k_block ?_
 refine k_loopF (fun sl L (i : Nat) => ⟨setAll (setBad sl [0, 4, 5, 6, 7, 8, 9, 10, 11, 12, 13, 14, 17, 18, 19, 20, 21, 22, 23, 24]) [(16, .t (num i))], Go.Ot.look (putL (.n 9) (rowMb (newB 3 i)) (putL (.r 2 5 0) (boxO 31 [.msl (.n 9) 0 3 2, .t (.v (.slice none 0 0)), .t (txt []), .t (num 0), .msl (.r 2 3 0) 0 3 1]) (delL (.r 2 1 0) L)))⟩) (fun i => i ≤ 3) (fun i => 3 - i) (0) (a_le ?_) ?_ ?_
 ·refine le_of [(.r 0 0 0, .r 0 0 0), (.r 2 5 0, .r 2 5 0), (.n 9, .r 2 1 0), (.r 2 3 0, .r 2 3 0)] ?_ ?_ ?_ <;> simp [-List.map_set, -List.map_replicate, -List.reduceReplicate, -List.map_map, -List.map_drop, -List.map_take, num, bol, txt, w8, w16, w32, w64, lst, cls, rowO, boxO, List.take_of_length_le, Wr.cellsL_len, wA, Wr.k_mk, Wr.n_mk, Wr.s_mk, Wr.l_mk, Wr.cellsL, Wr.z_eq, mbT, newR, rowMb, newB, mbT, List.replicate] <;> (try omega)
 ·(first | omega | simp)
 ·intro i hi
  refine a_st ?_
  refine k_seq ?_
  refine k_region rfl ?_
  refine a_op ?_
  refine s_nil (r_false ?_)
  refine q_next ?_
  refine k_seq ?_
  refine a_if (fun hc0 => ?_) (fun hc0 => ?_)
  ·(try simp only [Bool.and_eq_true, Bool.or_eq_true, Bool.or_eq_false_iff, Bool.not_eq_true', Bool.not_eq_false', dec_t, dec_f, Bool.and_eq_false_imp, beq_iff_eq, beq_eq_false_iff_ne, ne_eq] at hc0)
   refine k_skip ?_
   refine q_next ?_
   refine k_seq ?_
   refine k_block ?_
   refine k_seq ?_
   refine k_region rfl ?_
   refine a_op ?_
   refine a_op ?_
   refine s_nil (r_false ?_)
   refine q_next ?_
   refine k_region rfl ?_
   have hnx := newB_next (k := 3) (i := i) (by omega)
   iterate 6 refine a_op ?_
   refine s_nil (r_false ?_)
   refine q_block (q_next ?_)
   refine k_region rfl ?_
   refine a_op ?_
   refine a_op ?_
   refine s_nil (r_false ?_)
   refine q_loopF (i + 1) (a_le ?_) ?_ ?_
   ·refine le_of [(.r 0 0 0, .r 0 0 0), (.r 2 5 0, .r 2 5 0), (.n 9, .n 9), (.r 2 3 0, .r 2 3 0)] ?_ ?_ ?_ <;> simp [-List.map_set, -List.map_replicate, -List.reduceReplicate, -List.map_map, -List.map_drop, -List.map_take, num, bol, txt, w8, w16, w32, w64, lst, cls, rowO, boxO, List.take_of_length_le, Wr.cellsL_len, wA, Wr.k_mk, Wr.n_mk, Wr.s_mk, Wr.l_mk, Wr.cellsL, Wr.z_eq, mbT, newR, rowMb, hnx] <;> (try omega)
   ·(first | omega | (simp_all <;> omega))
   ·(first | omega | (simp only []; omega))
  ·(try simp only [Bool.and_eq_true, Bool.or_eq_true, Bool.or_eq_false_iff, Bool.not_eq_true', Bool.not_eq_false', dec_t, dec_f, Bool.and_eq_false_imp, beq_iff_eq, beq_eq_false_iff_ne, ne_eq] at hc0)
   refine k_exit ?_
   refine q_seq_exit (q_loopF_exit (q_block_exit (q_next ?_)))
   refine k_seq ?_
   refine k_region rfl ?_
   have hil : i = 3 := by omega
   subst hil
   have hal := mb_all (newB_len 3 3)
   have hbl := newB_len 3 3
   refine a_op ?_
   refine a_op ?_
   refine s_nil (r_false ?_)
   refine q_next ?_
   refine k_ret ?_
   refine ⟨.inr rfl, a_ret [] (by rw [results13]) ?_ ?_ ?_⟩ <;> simp [-List.map_set, -List.map_replicate, -List.reduceReplicate, -List.map_map, -List.map_drop, -List.map_take, num, bol, txt, w8, w16, w32, w64, lst, cls, rowO, boxO, List.take_of_length_le, Wr.cellsL_len, wA, Wr.k_mk, Wr.n_mk, Wr.s_mk, Wr.l_mk, Wr.cellsL, Wr.z_eq, mbT, newR, hal, hbl, mbs_len, -List.length_flatMap, List.replicate]

theorem new4_good (Γ : Gl)  : Go.Ot.Good Γ prog 13 [.t (num 4)] [] (.agg [.t (.sl (newR 4).boxes.length ((newR 4).boxes.flatMap mbT)), .t (lst txt (newR 4).log), .t (txt (newR 4).snap), .t (num (newR 4).shares), .t (lst num (newR 4).last)]) [] [] := by
 refine a_body F.mix func13 (by rfl) ntmps13 ?_
 refine k_seq ?_
 refine k_region rfl ?_
 refine a_op ?_
 refine s_nil (r_false ?_)
 refine q_next ?_
 refine k_seq ?_
 refine k_region rfl ?_
 iterate 3 refine a_op ?_
 simp only [show (max (1 : Int) (min 4 8)) = 4 from by decide]
 refine a_op ?_
 refine s_nil (r_false ?_)
 refine q_next ?_
 refine k_seq ?_
 refine k_region rfl ?_
 iterate 7 refine a_opd ?_
 refine s_nil (r_true (by kernel_rfl) ?_)
 refine q_next ?_
 refine k_seq ?_
 refine k_seq ?_
 refine k_region rfl ?_
 iterate 4 refine a_op ?_
 refine s_nil (r_false ?_)
 refine q_next ?_
 refine k_block ?_
 refine k_loopF (fun sl L (i : Nat) => ⟨setAll (setBad sl [0, 4, 5, 6, 7, 8, 9, 10, 11, 12, 13, 14, 17, 18, 19, 20, 21, 22, 23, 24]) [(16, .t (num i))], Go.Ot.look (putL (.n 9) (rowMb (newB 4 i)) (putL (.r 2 5 0) (boxO 31 [.msl (.n 9) 0 4 2, .t (.v (.slice none 0 0)), .t (txt []), .t (num 0), .msl (.r 2 3 0) 0 4 1]) (delL (.r 2 1 0) L)))⟩) (fun i => i ≤ 4) (fun i => 4 - i) (0) (a_le ?_) ?_ ?_
 ·refine le_of [(.r 0 0 0, .r 0 0 0), (.r 2 5 0, .r 2 5 0), (.n 9, .r 2 1 0), (.r 2 3 0, .r 2 3 0)] ?_ ?_ ?_ <;> simp [-List.map_set, -List.map_replicate, -List.reduceReplicate, -List.map_map, -List.map_drop, -List.map_take, num, bol, txt, w8, w16, w32, w64, lst, cls, rowO, boxO, List.take_of_length_le, Wr.cellsL_len, wA, Wr.k_mk, Wr.n_mk, Wr.s_mk, Wr.l_mk, Wr.cellsL, Wr.z_eq, mbT, newR, rowMb, newB, mbT, List.replicate] <;> (try omega)
 ·(first | omega | simp)
 ·intro i hi
  refine a_st ?_
  refine k_seq ?_
  refine k_region rfl ?_
  refine a_op ?_
  refine s_nil (r_false ?_)
  refine q_next ?_
  refine k_seq ?_
  refine a_if (fun hc0 => ?_) (fun hc0 => ?_)
  ·(try simp only [Bool.and_eq_true, Bool.or_eq_true, Bool.or_eq_false_iff, Bool.not_eq_true', Bool.not_eq_false', dec_t, dec_f, Bool.and_eq_false_imp, beq_iff_eq, beq_eq_false_iff_ne, ne_eq] at hc0)
   refine k_skip ?_
   refine q_next ?_
   refine k_seq ?_
   refine k_block ?_
   refine k_seq ?_
   refine k_region rfl ?_
   refine a_op ?_
   refine a_op ?_
   refine s_nil (r_false ?_)
   refine q_next ?_
   refine k_region rfl ?_
   have hnx := newB_next (k := 4) (i := i) (by omega)
   iterate 6 refine a_op ?_
   refine s_nil (r_false ?_)
   refine q_block (q_next ?_)
   refine k_region rfl ?_
   refine a_op ?_
   refine a_op ?_
   refine s_nil (r_false ?_)
   refine q_loopF (i + 1) (a_le ?_) ?_ ?_
   ·refine le_of [(.r 0 0 0, .r 0 0 0), (.r 2 5 0, .r 2 5 0), (.n 9, .n 9), (.r 2 3 0, .r 2 3 0)] ?_ ?_ ?_ <;> simp [-List.map_set, -List.map_replicate, -List.reduceReplicate, -List.map_map, -List.map_drop, -List.map_take, num, bol, txt, w8, w16, w32, w64, lst, cls, rowO, boxO, List.take_of_length_le, Wr.cellsL_len, wA, Wr.k_mk, Wr.n_mk, Wr.s_mk, Wr.l_mk, Wr.cellsL, Wr.z_eq, mbT, newR, rowMb, hnx] <;> (try omega)
   ·(first | omega | (simp_all <;> omega))
   ·(first | omega | (simp only []; omega))
  ·(try simp only [Bool.and_eq_true, Bool.or_eq_true, Bool.or_eq_false_iff, Bool.not_eq_true', Bool.not_eq_false', dec_t, dec_f, Bool.and_eq_false_imp, beq_iff_eq, beq_eq_false_iff_ne, ne_eq] at hc0)
   refine k_exit ?_
   refine q_seq_exit (q_loopF_exit (q_block_exit (q_next ?_)))
   refine k_seq ?_
   refine k_region rfl ?_
   have hil : i = 4 := by omega
   subst hil
   have hal := mb_all (newB_len 4 4)
   have hbl := newB_len 4 4
   refine a_op ?_
   refine a_op ?_
   refine s_nil (r_false ?_)
   refine q_next ?_
   refine k_ret ?_
   refine ⟨.inr rfl, a_ret [] (by rw [results13]) ?_ ?_ ?_⟩ <;> simp [-List.map_set, -List.map_replicate, -List.reduceReplicate, -List.map_map, -List.map_drop, -List.map_take, num, bol, txt, w8, w16, w32, w64, lst, cls, rowO, boxO, List.take_of_length_le, Wr.cellsL_len, wA, Wr.k_mk, Wr.n_mk, Wr.s_mk, Wr.l_mk, Wr.cellsL, Wr.z_eq, mbT, newR, hal, hbl, mbs_len, -List.length_flatMap, List.replicate]

theorem within_good (Γ : Gl) (n : Int) (h0 : 0 ≤ n) (h1 : n ≤ 4503599627370496) : Go.Ot.Good Γ prog 59 [.t (num n)] [] (.t (bol true)) [] [] := by
 refine a_body F.mix func59 (by rfl) ntmps59 ?_
 refine k_seq ?_
 refine k_region rfl ?_
 refine a_op ?_
 refine s_nil (r_false ?_)
 refine q_next ?_
 refine k_seq ?_
 refine k_region rfl ?_
 iterate 3 refine a_op ?_
 refine a_go ?_
 refine a_go ?_
 refine a_op ?_
 refine a_op ?_
 refine s_nil (r_false ?_)
 refine q_next ?_
 refine k_ret ?_
 refine ⟨.inr rfl, a_ret [] (by rw [results59]) ?_ ?_ ?_⟩ <;> simp [-List.map_set, -List.map_replicate, -List.reduceReplicate, -List.map_map, -List.map_drop, -List.map_take, num, bol, txt, w8, w16, w32, w64, lst, cls, rowO, boxO, List.take_of_length_le]

end Go.Proofs.Tryz
