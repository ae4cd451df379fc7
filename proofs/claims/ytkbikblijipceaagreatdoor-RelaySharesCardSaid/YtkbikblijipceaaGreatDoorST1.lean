/- Contracts of this program's functions. -/
import Derived.Test.YtkbikblijipceaaGreatDoorST0
set_option maxHeartbeats 4000000
set_option maxRecDepth 100000
set_option linter.unusedVariables false
set_option linter.unusedSimpArgs false
namespace Go.Proofs.Tryz
open Go Go.Ot
attribute [local irreducible] wpK wpS seqK blockK loopF regK meetK OpSpec Le rdS lpW rdW got mayS mayW ixF putS putW nb u64 deepF deepS deepW
theorem right_step (Γ : Gl) (d : Nat) (hd6 : d ≤ 6) (deep : Bool) (hdeep : deep = decide (0 < d)) (sub : Wr → Bool) (IH : 0 < d → ∀ w : Wr, w.sz ≤ 1000000 → Go.Ot.Good Γ prog 134 [wA w, .t (num ((d : Int) - 1))] [] (.t (bol (sub w))) [] []) (w : Wr) (hw : w.l.length ≤ 1000000) (hz : Wr.szL w.l ≤ 1000000) : Go.Ot.Good Γ prog 134 [wA w, .t (num d)] [] (.t (bol (mayS deep sub w))) [] [] := by
 refine a_body F.mix func134 (by rfl) ntmps134 ?_
 refine k_seq ?_
 refine k_region rfl ?_
 refine a_op ?_
 refine a_op ?_
 refine s_nil (r_false ?_)
 refine q_next ?_
 refine k_seq ?_
 refine k_seq ?_
 refine k_region rfl ?_
 have h4 : w.k = 1 ∨ w.k = 2 ∨ w.k = 3 ∨ (w.k ≠ 1 ∧ w.k ≠ 2 ∧ w.k ≠ 3) := by omega
 obtain ⟨k, n, s, l⟩ := w
 simp only [Wr.k_mk] at h4
 have hl : l.length ≤ 1000000 := hw
 rcases h4 with rfl | rfl | rfl | h4
 ·skip
  refine a_op ?_
  refine a_op ?_
  refine s_nil (r_false ?_)
  refine q_next ?_
  refine k_block ?_
  refine k_seq ?_
  refine k_region rfl ?_
  refine a_op ?_
  refine a_op ?_
  refine s_nil (r_false ?_)
  refine q_next ?_
  refine a_true ?_
  refine k_seq ?_
  refine k_region rfl ?_
  rcases (show s ≠ [] ∨ s = [] from by by_cases h : s = []; exact .inr h; exact .inl h) with h1 | rfl
  ·try have hb := beq_ne h1
   refine a_op ?_
   refine a_op ?_
   refine a_op (hs := by (simp only [push_cast, hb] <;> rfl)) ?_
   refine a_op ?_
   refine a_no ?_
   refine a_no ?_
   refine a_no ?_
   refine a_no ?_
   refine a_op ?_
   refine a_op ?_
   refine s_nil (r_false ?_)
   refine q_next ?_
   refine k_ret ?_
   refine q_block_ret (q_seq_ret ?_)
   refine ⟨.inr rfl, a_ret [] (by rw [results134]) ?_ ?_ ?_⟩ <;> simp [-List.map_set, -List.map_replicate, -List.reduceReplicate, -List.map_map, -List.map_drop, -List.map_take, num, bol, txt, w8, w16, w32, w64, lst, cls, rowO, boxO, List.take_of_length_le, Wr.cellsL_len, wA, Wr.k_mk, Wr.n_mk, Wr.s_mk, Wr.l_mk, Wr.cellsL, Wr.z_eq, mayS_1, hb]
  ·try have hb := beq_ne h1
   iterate 4 refine a_op ?_
   refine a_go ?_
   refine a_go ?_
   refine a_go ?_
   refine a_go ?_
   refine a_op ?_
   refine a_op ?_
   refine s_nil (r_false ?_)
   refine q_next ?_
   refine k_ret ?_
   refine q_block_ret (q_seq_ret ?_)
   refine ⟨.inr rfl, a_ret [] (by rw [results134]) ?_ ?_ ?_⟩ <;> simp [-List.map_set, -List.map_replicate, -List.reduceReplicate, -List.map_map, -List.map_drop, -List.map_take, num, bol, txt, w8, w16, w32, w64, lst, cls, rowO, boxO, List.take_of_length_le, Wr.cellsL_len, wA, Wr.k_mk, Wr.n_mk, Wr.s_mk, Wr.l_mk, Wr.cellsL, Wr.z_eq, mayS_1]
 ·skip
  refine a_op ?_
  refine a_op ?_
  refine s_nil (r_false ?_)
  refine q_next ?_
  refine k_block ?_
  refine k_seq ?_
  refine k_region rfl ?_
  refine a_op ?_
  refine a_op ?_
  refine s_nil (r_false ?_)
  refine q_next ?_
  refine a_false ?_
  refine k_seq ?_
  refine k_region rfl ?_
  refine a_op ?_
  refine a_op ?_
  refine s_nil (r_false ?_)
  refine q_next ?_
  refine a_true ?_
  refine k_seq ?_
  refine k_region rfl ?_
  have h5 : n ≠ 0 ∨ (n = 0 ∧ l.length ≠ 0) ∨ (n = 0 ∧ l.length = 0) := by omega
  rcases h5 with h1 | ⟨rfl, h1⟩ | ⟨rfl, h1⟩
  ·skip
   iterate 4 refine a_op ?_
   refine a_no ?_
   refine a_no ?_
   refine a_no ?_
   refine a_no ?_
   refine a_op ?_
   refine a_op ?_
   refine a_no ?_
   refine a_no ?_
   refine a_no ?_
   refine a_no ?_
   refine a_op ?_
   refine a_op ?_
   refine s_nil (r_false ?_)
   refine q_next ?_
   refine k_ret ?_
   refine q_block_ret (q_seq_ret ?_)
   refine ⟨.inr rfl, a_ret [] (by rw [results134]) ?_ ?_ ?_⟩ <;> simp [-List.map_set, -List.map_replicate, -List.reduceReplicate, -List.map_map, -List.map_drop, -List.map_take, num, bol, txt, w8, w16, w32, w64, lst, cls, rowO, boxO, List.take_of_length_le, Wr.cellsL_len, wA, Wr.k_mk, Wr.n_mk, Wr.s_mk, Wr.l_mk, Wr.cellsL, Wr.z_eq, mayS_2, h1]
  ·skip
   iterate 4 refine a_op ?_
   refine a_go ?_
   refine a_go ?_
   refine a_go ?_
   refine a_go ?_
   refine a_op ?_
   refine a_op ?_
   refine a_no ?_
   refine a_no ?_
   refine a_no ?_
   refine a_no ?_
   refine a_op ?_
   refine a_op ?_
   refine s_nil (r_false ?_)
   refine q_next ?_
   refine k_ret ?_
   refine q_block_ret (q_seq_ret ?_)
   refine ⟨.inr rfl, a_ret [] (by rw [results134]) ?_ ?_ ?_⟩ <;> simp [-List.map_set, -List.map_replicate, -List.reduceReplicate, -List.map_map, -List.map_drop, -List.map_take, num, bol, txt, w8, w16, w32, w64, lst, cls, rowO, boxO, List.take_of_length_le, Wr.cellsL_len, wA, Wr.k_mk, Wr.n_mk, Wr.s_mk, Wr.l_mk, Wr.cellsL, Wr.z_eq, mayS_2, h1]
  ·skip
   iterate 4 refine a_op ?_
   refine a_go ?_
   refine a_go ?_
   refine a_go ?_
   refine a_go ?_
   refine a_op ?_
   refine a_op ?_
   refine a_go ?_
   refine a_go ?_
   refine a_go ?_
   refine a_go ?_
   refine a_op ?_
   refine a_op ?_
   refine s_nil (r_false ?_)
   refine q_next ?_
   refine k_ret ?_
   refine q_block_ret (q_seq_ret ?_)
   refine ⟨.inr rfl, a_ret [] (by rw [results134]) ?_ ?_ ?_⟩ <;> simp [-List.map_set, -List.map_replicate, -List.reduceReplicate, -List.map_map, -List.map_drop, -List.map_take, num, bol, txt, w8, w16, w32, w64, lst, cls, rowO, boxO, List.take_of_length_le, Wr.cellsL_len, wA, Wr.k_mk, Wr.n_mk, Wr.s_mk, Wr.l_mk, Wr.cellsL, Wr.z_eq, mayS_2, h1, show ((s.length : Int) ≤ 1048576) = (s.length ≤ 1048576) from propext (by omega)]
 ·skip
  refine a_op ?_
  refine a_op ?_
  refine s_nil (r_false ?_)
  refine q_next ?_
  refine k_block ?_
  refine k_seq ?_
  refine k_region rfl ?_
  refine a_op ?_
  refine a_op ?_
  refine s_nil (r_false ?_)
  refine q_next ?_
  refine a_false ?_
  refine k_seq ?_
  refine k_region rfl ?_
  refine a_op ?_
  refine a_op ?_
  refine s_nil (r_false ?_)
  refine q_next ?_
  refine a_false ?_
  refine k_seq ?_
  refine k_region rfl ?_
  refine a_op ?_
  refine a_op ?_
  refine s_nil (r_false ?_)
  refine q_next ?_
  refine a_true ?_
  refine k_seq ?_
  refine k_seq ?_
  refine k_region rfl ?_
  have h5 : (n ≠ 0) ∨ (n = 0 ∧ s ≠ []) ∨ (n = 0 ∧ s = [] ∧ 65536 < l.length) ∨ (n = 0 ∧ s = [] ∧ l.length ≤ 65536 ∧ d = 0) ∨ (n = 0 ∧ s = [] ∧ l.length ≤ 65536 ∧ 0 < d) := by
   by_cases h1 : n = 0
   ·by_cases hs : s = []
    ·rcases Nat.lt_or_ge 65536 l.length with h2 | h2
     ·exact .inr (.inr (.inl ⟨h1, hs, h2⟩))
     ·rcases Nat.eq_zero_or_pos d with h | h
      ·exact .inr (.inr (.inr (.inl ⟨h1, hs, h2, h⟩)))
      ·exact .inr (.inr (.inr (.inr ⟨h1, hs, h2, h⟩)))
    ·exact .inr (.inl ⟨h1, hs⟩)
   ·exact .inl h1
  rcases h5 with h1 | ⟨rfl, h1⟩ | ⟨rfl, rfl, h1⟩ | ⟨rfl, rfl, h1, h0⟩ | ⟨rfl, rfl, h1, h0⟩
  ·try have hb := beq_ne h1
   iterate 4 refine a_op ?_
   refine a_no ?_
   refine a_no ?_
   refine a_no ?_
   refine a_op ?_
   refine a_op ?_
   refine a_no ?_
   refine a_no ?_
   refine a_no ?_
   refine a_no ?_
   refine a_op ?_
   refine a_op ?_
   refine a_no ?_
   refine a_no ?_
   refine a_op ?_
   refine s_nil (r_false ?_)
   refine q_next ?_
   refine a_true ?_
   refine k_seq ?_
   refine k_region rfl ?_
   refine a_op ?_
   refine s_nil (r_false ?_)
   refine q_next ?_
   refine k_ret ?_
   refine q_seq_ret (q_block_ret (q_seq_ret ?_))
   refine ⟨.inr rfl, a_ret [] (by rw [results134]) ?_ ?_ ?_⟩ <;> simp [-List.map_set, -List.map_replicate, -List.reduceReplicate, -List.map_map, -List.map_drop, -List.map_take, num, bol, txt, w8, w16, w32, w64, lst, cls, rowO, boxO, List.take_of_length_le, Wr.cellsL_len, wA, Wr.k_mk, Wr.n_mk, Wr.s_mk, Wr.l_mk, Wr.cellsL, Wr.z_eq, mayS_3, h1]
  ·try have hb := beq_ne h1
   iterate 4 refine a_op ?_
   refine a_go ?_
   refine a_go ?_
   refine a_go (hs := by (simp only [push_cast, hb] <;> rfl)) ?_
   refine a_op ?_
   refine a_op ?_
   refine a_no ?_
   refine a_no ?_
   refine a_no ?_
   refine a_no ?_
   refine a_op ?_
   refine a_op ?_
   refine a_no ?_
   refine a_no ?_
   refine a_op ?_
   refine s_nil (r_false ?_)
   refine q_next ?_
   refine a_true ?_
   refine k_seq ?_
   refine k_region rfl ?_
   refine a_op ?_
   refine s_nil (r_false ?_)
   refine q_next ?_
   refine k_ret ?_
   refine q_seq_ret (q_block_ret (q_seq_ret ?_))
   refine ⟨.inr rfl, a_ret [] (by rw [results134]) ?_ ?_ ?_⟩ <;> simp [-List.map_set, -List.map_replicate, -List.reduceReplicate, -List.map_map, -List.map_drop, -List.map_take, num, bol, txt, w8, w16, w32, w64, lst, cls, rowO, boxO, List.take_of_length_le, Wr.cellsL_len, wA, Wr.k_mk, Wr.n_mk, Wr.s_mk, Wr.l_mk, Wr.cellsL, Wr.z_eq, mayS_3, hb]
  ·try have hb := beq_ne h1
   iterate 4 refine a_op ?_
   refine a_go ?_
   refine a_go ?_
   refine a_go ?_
   refine a_op ?_
   refine a_op ?_
   refine a_go ?_
   refine a_go ?_
   refine a_go ?_
   refine a_go ?_
   refine a_op ?_
   refine a_op ?_
   refine a_no ?_
   refine a_no ?_
   refine a_op ?_
   refine s_nil (r_false ?_)
   refine q_next ?_
   refine a_true ?_
   refine k_seq ?_
   refine k_region rfl ?_
   refine a_op ?_
   refine s_nil (r_false ?_)
   refine q_next ?_
   refine k_ret ?_
   refine q_seq_ret (q_block_ret (q_seq_ret ?_))
   refine ⟨.inr rfl, a_ret [] (by rw [results134]) ?_ ?_ ?_⟩ <;> simp [-List.map_set, -List.map_replicate, -List.reduceReplicate, -List.map_map, -List.map_drop, -List.map_take, num, bol, txt, w8, w16, w32, w64, lst, cls, rowO, boxO, List.take_of_length_le, Wr.cellsL_len, wA, Wr.k_mk, Wr.n_mk, Wr.s_mk, Wr.l_mk, Wr.cellsL, Wr.z_eq, mayS_3, show ¬ l.length ≤ 65536 from by omega]
  ·try have hb := beq_ne h1
   iterate 4 refine a_op ?_
   refine a_go ?_
   refine a_go ?_
   refine a_go ?_
   refine a_op ?_
   refine a_op ?_
   refine a_go ?_
   refine a_go ?_
   refine a_go ?_
   refine a_go ?_
   refine a_op ?_
   refine a_op ?_
   refine a_go ?_
   refine a_go ?_
   refine a_op ?_
   refine s_nil (r_false ?_)
   refine q_next ?_
   refine a_true ?_
   refine k_seq ?_
   refine k_region rfl ?_
   refine a_op ?_
   refine s_nil (r_false ?_)
   refine q_next ?_
   refine k_ret ?_
   refine q_seq_ret (q_block_ret (q_seq_ret ?_))
   refine ⟨.inr rfl, a_ret [] (by rw [results134]) ?_ ?_ ?_⟩ <;> simp [-List.map_set, -List.map_replicate, -List.reduceReplicate, -List.map_map, -List.map_drop, -List.map_take, num, bol, txt, w8, w16, w32, w64, lst, cls, rowO, boxO, List.take_of_length_le, Wr.cellsL_len, wA, Wr.k_mk, Wr.n_mk, Wr.s_mk, Wr.l_mk, Wr.cellsL, Wr.z_eq, mayS_3, hdeep, h0]
  ·try have hb := beq_ne h1
   iterate 4 refine a_op ?_
   refine a_go ?_
   refine a_go ?_
   refine a_go ?_
   refine a_op ?_
   refine a_op ?_
   refine a_go ?_
   refine a_go ?_
   refine a_go ?_
   refine a_go ?_
   refine a_op ?_
   refine a_op ?_
   refine a_go ?_
   refine a_go ?_
   refine a_op ?_
   refine s_nil (r_false ?_)
   refine q_next ?_
   refine a_false ?_
   refine k_skip ?_
   refine q_next ?_
   refine k_seq ?_
   refine k_seq ?_
   refine k_region rfl ?_
   refine a_op ?_
   refine s_nil (r_false ?_)
   refine q_next ?_
   refine k_block ?_
   refine k_loopF (fun sl L (i : Nat) => ⟨setAll (setBad sl [0, 4, 6, 7, 8, 9, 10, 11, 12, 13, 14, 15, 16, 17, 18, 19, 20, 21, 22, 23, 24, 25, 26, 27, 28, 29, 30, 31, 32, 33, 34, 35, 36, 37, 38, 39, 40, 41, 42, 43, 44, 45, 46, 47, 48, 49, 50, 51, 52, 53, 54, 55, 56, 57, 58, 59, 60, 61, 62, 63, 64, 65, 66, 67, 68, 69, 70, 71]) [(5, .t (num i))], Go.Ot.look (L)⟩) (fun i => i ≤ l.length ∧ (l.take i).all sub = true) (fun i => l.length - i) (0) (a_le ?_) ?_ ?_
   ·refine le_same ?_ ?_ ?_ <;> simp [-List.map_set, -List.map_replicate, -List.reduceReplicate, -List.map_map, -List.map_drop, -List.map_take, num, bol, txt, w8, w16, w32, w64, lst, cls, rowO, boxO, List.take_of_length_le, Wr.cellsL_len, wA, Wr.k_mk, Wr.n_mk, Wr.s_mk, Wr.l_mk, Wr.cellsL, Wr.z_eq]
   ·exact ⟨by omega, by simp⟩
   ·intro i hi
    refine a_st ?_
    refine k_seq ?_
    refine k_seq ?_
    refine k_region rfl ?_
    iterate 5 refine a_op ?_
    refine s_nil (r_false ?_)
    refine q_next ?_
    refine a_if (fun hc4 => ?_) (fun hc4 => ?_)
    ·(try simp only [Bool.and_eq_true, Bool.or_eq_true, Bool.or_eq_false_iff, Bool.not_eq_true', Bool.not_eq_false', dec_t, dec_f, Bool.and_eq_false_imp, beq_iff_eq, beq_eq_false_iff_ne, ne_eq] at hc4)
     refine k_skip ?_
     refine q_next ?_
     refine k_seq ?_
     refine k_block ?_
     refine k_seq ?_
     refine k_region rfl ?_
     iterate 4 refine a_op ?_
     refine a_op (hc := by (rw [List.length_drop, Wr.cellsL_len]; omega)) ?_
     refine a_op ?_
     refine a_op ?_
     refine a_call [] false (IH h0 (l.getD i default) (by have := Wr.sz_mem (mem_getD (l := l) (i := i) (by omega)); simp only [Wr.l_mk] at hz; omega)) ?_
     refine a_op ?_
     refine s_nil (r_false ?_)
     refine q_next ?_
     refine a_if (fun hc5 => ?_) (fun hc5 => ?_)
     ·(try simp only [Bool.and_eq_true, Bool.or_eq_true, Bool.or_eq_false_iff, Bool.not_eq_true', Bool.not_eq_false', dec_t, dec_f, Bool.and_eq_false_imp, beq_iff_eq, beq_eq_false_iff_ne, ne_eq] at hc5)
      have hs := all_bad (p := sub) (l := l) (i := i) (by omega) hc5
      refine k_seq ?_
      refine k_region rfl ?_
      refine a_op ?_
      refine s_nil (r_false ?_)
      refine q_next ?_
      refine k_ret ?_
      refine q_block_ret (q_seq_ret (q_loopF_ret (q_block_ret (q_seq_ret (q_block_ret (q_seq_ret ?_))))))
      refine ⟨.inr rfl, a_ret [] (by rw [results134]) ?_ ?_ ?_⟩ <;> simp [-List.map_set, -List.map_replicate, -List.reduceReplicate, -List.map_map, -List.map_drop, -List.map_take, num, bol, txt, w8, w16, w32, w64, lst, cls, rowO, boxO, List.take_of_length_le, Wr.cellsL_len, wA, Wr.k_mk, Wr.n_mk, Wr.s_mk, Wr.l_mk, Wr.cellsL, Wr.z_eq, mayS_3, hdeep, h0, h1, hs]
     ·(try simp only [Bool.and_eq_true, Bool.or_eq_true, Bool.or_eq_false_iff, Bool.not_eq_true', Bool.not_eq_false', dec_t, dec_f, Bool.and_eq_false_imp, beq_iff_eq, beq_eq_false_iff_ne, ne_eq] at hc5)
      refine k_skip ?_
      refine q_block (q_next ?_)
      refine k_region rfl ?_
      iterate 3 refine a_op ?_
      refine s_nil (r_false ?_)
      refine q_loopF (i + 1) (a_le ?_) ?_ ?_
      ·refine le_same ?_ ?_ ?_ <;> simp [-List.map_set, -List.map_replicate, -List.reduceReplicate, -List.map_map, -List.map_drop, -List.map_take, num, bol, txt, w8, w16, w32, w64, lst, cls, rowO, boxO, List.take_of_length_le, Wr.cellsL_len, wA, Wr.k_mk, Wr.n_mk, Wr.s_mk, Wr.l_mk, Wr.cellsL, Wr.z_eq]
      ·exact ⟨by omega, all_next (by omega) hi.2 hc5⟩
      ·(first | omega | (simp only []; omega))
    ·(try simp only [Bool.and_eq_true, Bool.or_eq_true, Bool.or_eq_false_iff, Bool.not_eq_true', Bool.not_eq_false', dec_t, dec_f, Bool.and_eq_false_imp, beq_iff_eq, beq_eq_false_iff_ne, ne_eq] at hc4)
     have hs : l.all sub = true := by have := hi.2; rwa [List.take_of_length_le (by omega)] at this
     refine k_exit ?_
     refine q_seq_exit (q_loopF_exit (q_block_exit (q_next ?_)))
     refine k_seq ?_
     refine k_region rfl ?_
     refine a_op ?_
     refine s_nil (r_false ?_)
     refine q_next ?_
     refine k_ret ?_
     refine q_block_ret (q_seq_ret ?_)
     refine ⟨.inr rfl, a_ret [] (by rw [results134]) ?_ ?_ ?_⟩ <;> simp [-List.map_set, -List.map_replicate, -List.reduceReplicate, -List.map_map, -List.map_drop, -List.map_take, num, bol, txt, w8, w16, w32, w64, lst, cls, rowO, boxO, List.take_of_length_le, Wr.cellsL_len, wA, Wr.k_mk, Wr.n_mk, Wr.s_mk, Wr.l_mk, Wr.cellsL, Wr.z_eq, mayS_3, hdeep, h0, h1, hs]
 ·skip
  refine a_op ?_
  refine a_op ?_
  refine s_nil (r_false ?_)
  refine q_next ?_
  refine k_block ?_
  refine k_seq ?_
  refine k_region rfl ?_
  refine a_op ?_
  refine a_op ?_
  refine s_nil (r_false ?_)
  refine q_next ?_
  refine a_false ?_
  refine k_seq ?_
  refine k_region rfl ?_
  refine a_op ?_
  refine a_op ?_
  refine s_nil (r_false ?_)
  refine q_next ?_
  refine a_false ?_
  refine k_seq ?_
  refine k_region rfl ?_
  refine a_op ?_
  refine a_op ?_
  refine s_nil (r_false ?_)
  refine q_next ?_
  refine a_false ?_
  refine k_skip ?_
  refine q_block (q_next ?_)
  refine k_seq ?_
  refine k_region rfl ?_
  refine a_op ?_
  refine s_nil (r_false ?_)
  refine q_next ?_
  refine k_ret ?_
  refine ⟨.inr rfl, a_ret [] (by rw [results134]) ?_ ?_ ?_⟩ <;> simp [-List.map_set, -List.map_replicate, -List.reduceReplicate, -List.map_map, -List.map_drop, -List.map_take, num, bol, txt, w8, w16, w32, w64, lst, cls, rowO, boxO, List.take_of_length_le, Wr.cellsL_len, wA, Wr.k_mk, Wr.n_mk, Wr.s_mk, Wr.l_mk, Wr.cellsL, Wr.z_eq, mayS_o h4]

theorem right_good (Γ : Gl) : ∀ (d : Nat), d ≤ 6 → ∀ w : Wr, w.sz ≤ 1000000 → Go.Ot.Good Γ prog 134 [wA w, .t (num d)] [] (.t (bol (mayW d w))) [] []
 | 0, h, w, hw => by rw [mayW_z]; exact right_step Γ 0 h false (by simp) (fun _ => false) (fun h => by omega) w (by cases w with | mk k n s l => have := sz_l k n s l; simp only [Wr.l_mk]; omega) (by cases w with | mk k n s l => simp only [Wr.l_mk]; simp [Wr.sz] at hw; omega)
 | d + 1, h, w, hw => by rw [mayW_s]; exact right_step Γ (d + 1) h true (by simp) (mayW d) (fun _ w hw => by
   have := right_good Γ d (by omega) w hw
   rwa [show ((d + 1 : Nat) : Int) - 1 = (d : Int) from by omega]) w (by cases w with | mk k n s l => have := sz_l k n s l; simp only [Wr.l_mk]; omega) (by cases w with | mk k n s l => simp only [Wr.l_mk]; simp [Wr.sz] at hw; omega)
theorem deep_step (Γ : Gl) (d : Nat) (hd6 : d ≤ 7) (deep : Bool) (hdeep : deep = decide (0 < d)) (sub : Wr → Int) (hsub : ∀ x, 0 ≤ sub x ∧ sub x ≤ 100) (IH : 0 < d → ∀ w : Wr, w.sz ≤ 1000000 → Go.Ot.Good Γ prog 135 [wA w, .t (num ((d : Int) - 1))] [] (.t (num (sub w))) [] []) (w : Wr) (hw : w.l.length ≤ 1000000) (hz : Wr.szL w.l ≤ 1000000) : Go.Ot.Good Γ prog 135 [wA w, .t (num d)] [] (.t (num (deepS deep sub w))) [] [] := by
 refine a_body F.mix func135 (by rfl) ntmps135 ?_
 refine k_seq ?_
 refine k_region rfl ?_
 refine a_op ?_
 refine a_op ?_
 refine s_nil (r_false ?_)
 refine q_next ?_
 refine k_seq ?_
 refine k_seq ?_
 refine k_region rfl ?_
 iterate 3 refine a_op ?_
 refine s_nil (r_false ?_)
 refine q_next ?_
 refine a_if (fun hc0 => ?_) (fun hc0 => ?_)
 ·(try simp only [Bool.and_eq_true, Bool.or_eq_true, Bool.or_eq_false_iff, Bool.not_eq_true', Bool.not_eq_false', dec_t, dec_f, Bool.and_eq_false_imp, beq_iff_eq, beq_eq_false_iff_ne, ne_eq] at hc0)
  have hs := deepS_o (pos := deep) (sub := sub) hc0
  refine k_seq ?_
  refine k_region rfl ?_
  refine a_op ?_
  refine s_nil (r_false ?_)
  refine q_next ?_
  refine k_ret ?_
  refine q_seq_ret ?_
  refine ⟨.inr rfl, a_ret [] (by rw [results135]) ?_ ?_ ?_⟩ <;> simp [-List.map_set, -List.map_replicate, -List.reduceReplicate, -List.map_map, -List.map_drop, -List.map_take, num, bol, txt, w8, w16, w32, w64, lst, cls, rowO, boxO, List.take_of_length_le, Wr.cellsL_len, wA, Wr.k_mk, Wr.n_mk, Wr.s_mk, Wr.l_mk, Wr.cellsL, Wr.z_eq, hs]
 ·(try simp only [Bool.and_eq_true, Bool.or_eq_true, Bool.or_eq_false_iff, Bool.not_eq_true', Bool.not_eq_false', dec_t, dec_f, Bool.and_eq_false_imp, beq_iff_eq, beq_eq_false_iff_ne, ne_eq] at hc0)
  have hk : w.k = 3 := by omega
  have hs := deepS_3 (pos := deep) (sub := sub) hk
  refine k_skip ?_
  refine q_next ?_
  refine k_seq ?_
  refine k_region rfl ?_
  refine a_op ?_
  refine s_nil (r_false ?_)
  refine q_next ?_
  refine k_seq ?_
  refine k_seq ?_
  refine k_region rfl ?_
  refine a_op ?_
  refine s_nil (r_false ?_)
  refine q_next ?_
  refine k_block ?_
  refine k_loopF (fun sl L (i : Nat) => ⟨setAll (setBad sl [0, 7, 8, 9, 10, 11, 12, 13, 14, 15, 16, 17, 18, 19, 20, 21, 22, 23, 24, 25, 26, 27, 28, 29, 30, 31]) [(5, .t (num (deepF sub (w.l.take i)))), (6, .t (num i))], Go.Ot.look (L)⟩) (fun i => i ≤ w.l.length ∧ (d = 0 → i = 0)) (fun i => w.l.length - i) (0) (a_le ?_) ?_ ?_
  ·refine le_same ?_ ?_ ?_ <;> simp [-List.map_set, -List.map_replicate, -List.reduceReplicate, -List.map_map, -List.map_drop, -List.map_take, num, bol, txt, w8, w16, w32, w64, lst, cls, rowO, boxO, List.take_of_length_le, Wr.cellsL_len, wA, Wr.k_mk, Wr.n_mk, Wr.s_mk, Wr.l_mk, Wr.cellsL, Wr.z_eq, deepF_nil]
  ·exact ⟨by omega, fun _ => rfl⟩
  ·intro i hi
   have hdf := deepF_le (sub := sub) (B := 101) (l := w.l.take i) (by omega) (fun x _ => by have := hsub x; omega)
   refine a_st ?_
   refine k_seq ?_
   refine k_seq ?_
   refine k_region rfl ?_
   have h5 : (i < w.l.length ∧ 0 < d) ∨ (i < w.l.length ∧ d = 0) ∨ i = w.l.length := by omega
   rcases h5 with ⟨h1, h2⟩ | ⟨h1, h2⟩ | h1
   ·skip
    iterate 6 refine a_op ?_
    refine a_go ?_
    refine a_go ?_
    refine a_op ?_
    refine s_nil (r_false ?_)
    refine q_next ?_
    refine a_true ?_
    refine k_skip ?_
    refine q_next ?_
    refine k_seq ?_
    refine k_block ?_
    refine k_region rfl ?_
    have hsb := hsub (w.l.getD i default)
    iterate 5 refine a_op ?_
    refine a_op (hc := by (rw [List.length_drop, Wr.cellsL_len]; omega)) ?_
    refine a_op ?_
    refine a_op ?_
    refine a_call [] false (IH h2 (w.l.getD i default) (by have := Wr.sz_mem (mem_getD (l := w.l) (i := i) h1); omega)) ?_
    iterate 3 refine a_op ?_
    refine s_nil (r_false ?_)
    refine q_block (q_next ?_)
    refine k_region rfl ?_
    iterate 3 refine a_op ?_
    refine s_nil (r_false ?_)
    refine q_loopF (i + 1) (a_le ?_) ?_ ?_
    ·refine le_same ?_ ?_ ?_ <;> simp [-List.map_set, -List.map_replicate, -List.reduceReplicate, -List.map_map, -List.map_drop, -List.map_take, num, bol, txt, w8, w16, w32, w64, lst, cls, rowO, boxO, List.take_of_length_le, Wr.cellsL_len, wA, Wr.k_mk, Wr.n_mk, Wr.s_mk, Wr.l_mk, Wr.cellsL, Wr.z_eq, deepF_next h1]
    ·exact ⟨by omega, fun h => by omega⟩
    ·(first | omega | (simp only []; omega))
   ·skip
    iterate 6 refine a_op ?_
    refine a_go ?_
    refine a_go ?_
    refine a_op ?_
    refine s_nil (r_false ?_)
    refine q_next ?_
    refine a_false ?_
    refine k_exit ?_
    refine q_seq_exit (q_loopF_exit (q_block_exit (q_next ?_)))
    refine k_seq ?_
    refine k_region rfl ?_
    have he : deepS deep sub w = deepF sub (w.l.take i) := by
     rw [hs, hdeep]
     rcases Nat.eq_zero_or_pos d with h | h
     ·have := hi.2 h; subst this; simp [h, deepF_nil]
     ·have hil : i = w.l.length := by omega
      rw [hil, List.take_length]; simp [h]
    refine a_op ?_
    refine a_op ?_
    refine s_nil (r_false ?_)
    refine q_next ?_
    refine k_ret ?_
    refine ⟨.inr rfl, a_ret [] (by rw [results135]) ?_ ?_ ?_⟩ <;> simp [-List.map_set, -List.map_replicate, -List.reduceReplicate, -List.map_map, -List.map_drop, -List.map_take, num, bol, txt, w8, w16, w32, w64, lst, cls, rowO, boxO, List.take_of_length_le, Wr.cellsL_len, wA, Wr.k_mk, Wr.n_mk, Wr.s_mk, Wr.l_mk, Wr.cellsL, Wr.z_eq, he]
   ·skip
    iterate 6 refine a_op ?_
    refine a_no ?_
    refine a_no ?_
    refine a_op ?_
    refine s_nil (r_false ?_)
    refine q_next ?_
    refine a_false ?_
    refine k_exit ?_
    refine q_seq_exit (q_loopF_exit (q_block_exit (q_next ?_)))
    refine k_seq ?_
    refine k_region rfl ?_
    have he : deepS deep sub w = deepF sub (w.l.take i) := by
     rw [hs, hdeep]
     rcases Nat.eq_zero_or_pos d with h | h
     ·have := hi.2 h; subst this; simp [h, deepF_nil]
     ·have hil : i = w.l.length := by omega
      rw [hil, List.take_length]; simp [h]
    refine a_op ?_
    refine a_op ?_
    refine s_nil (r_false ?_)
    refine q_next ?_
    refine k_ret ?_
    refine ⟨.inr rfl, a_ret [] (by rw [results135]) ?_ ?_ ?_⟩ <;> simp [-List.map_set, -List.map_replicate, -List.reduceReplicate, -List.map_map, -List.map_drop, -List.map_take, num, bol, txt, w8, w16, w32, w64, lst, cls, rowO, boxO, List.take_of_length_le, Wr.cellsL_len, wA, Wr.k_mk, Wr.n_mk, Wr.s_mk, Wr.l_mk, Wr.cellsL, Wr.z_eq, he, h1, List.take_length]

theorem deep_good (Γ : Gl) : ∀ (d : Nat), d ≤ 7 → ∀ w : Wr, w.sz ≤ 1000000 → Go.Ot.Good Γ prog 135 [wA w, .t (num d)] [] (.t (num (deepW d w))) [] []
 | 0, h, w, hw => by rw [deepW_z]; exact deep_step Γ 0 h false (by simp) (fun _ => 0) (fun _ => by omega) (fun h => by omega) w (by cases w with | mk k n s l => have := sz_l k n s l; simp only [Wr.l_mk]; omega) (by cases w with | mk k n s l => simp only [Wr.l_mk]; simp [Wr.sz] at hw; omega)
 | d + 1, h, w, hw => by rw [deepW_s]; exact deep_step Γ (d + 1) h true (by simp) (deepW d) (fun x => by have := deepW_le d x; omega) (fun _ w hw => by
   have := deep_good Γ d (by omega) w hw
   rwa [show ((d + 1 : Nat) : Int) - 1 = (d : Int) from by omega]) w (by cases w with | mk k n s l => have := sz_l k n s l; simp only [Wr.l_mk]; omega) (by cases w with | mk k n s l => simp only [Wr.l_mk]; simp [Wr.sz] at hw; omega)
theorem MayR_good (Γ : Gl) (w : Wr) (hw : w.sz ≤ 1000000) : Go.Ot.Good Γ prog 100 [wA w] [] (.t (bol (mayW 6 w))) [] [] := by
 refine a_body F.mix func100 (by rfl) ntmps100 ?_
 refine k_seq ?_
 refine k_region rfl ?_
 refine a_op ?_
 refine a_op ?_
 refine s_nil (r_false ?_)
 refine q_next ?_
 refine k_seq ?_
 refine k_region rfl ?_
 rcases hm : mayW 6 w with _ | _
 all_goals (have hr := right_good Γ 6 (by omega) w hw; rw [hm] at hr)
 all_goals (try have hd := deep_may 6 7 w hm)
 ·skip
  refine a_op ?_
  refine a_call [] false (hr) ?_
  refine a_op ?_
  refine a_no ?_
  refine a_no ?_
  refine a_no ?_
  refine a_op ?_
  refine a_op ?_
  refine s_nil (r_false ?_)
  refine q_next ?_
  refine k_ret ?_
  refine ⟨.inr rfl, a_ret [] (by rw [results100]) ?_ ?_ ?_⟩ <;> simp [-List.map_set, -List.map_replicate, -List.reduceReplicate, -List.map_map, -List.map_drop, -List.map_take, num, bol, txt, w8, w16, w32, w64, lst, cls, rowO, boxO, List.take_of_length_le, Wr.cellsL_len, wA, Wr.k_mk, Wr.n_mk, Wr.s_mk, Wr.l_mk, Wr.cellsL, Wr.z_eq]
 ·skip
  refine a_op ?_
  refine a_call [] false (hr) ?_
  refine a_op ?_
  refine a_go ?_
  refine a_callgo [] false (deep_good Γ 7 (by omega) w hw) ?_
  refine a_go ?_
  refine a_op ?_
  refine a_op ?_
  refine s_nil (r_false ?_)
  refine q_next ?_
  refine k_ret ?_
  refine ⟨.inr rfl, a_ret [] (by rw [results100]) ?_ ?_ ?_⟩ <;> simp [-List.map_set, -List.map_replicate, -List.reduceReplicate, -List.map_map, -List.map_drop, -List.map_take, num, bol, txt, w8, w16, w32, w64, lst, cls, rowO, boxO, List.take_of_length_le, Wr.cellsL_len, wA, Wr.k_mk, Wr.n_mk, Wr.s_mk, Wr.l_mk, Wr.cellsL, Wr.z_eq, hd]

end Go.Proofs.Tryz
