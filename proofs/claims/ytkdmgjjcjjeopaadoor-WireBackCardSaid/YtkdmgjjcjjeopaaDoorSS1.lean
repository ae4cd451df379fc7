/- Contracts of this program's functions. -/
import Derived.Test.YtkdmgjjcjjeopaaDoorSS0
set_option maxHeartbeats 4000000
set_option maxRecDepth 100000
set_option linter.unusedVariables false
set_option linter.unusedSimpArgs false
namespace Go.Proofs.Tryd
open Go Go.Ot
attribute [local irreducible] wpK wpS seqK blockK loopF regK meetK OpSpec Le rdS lpW rdW got mayS mayW ixF putS putW nb u64 sameW sameL
theorem eqf_good (Γ : Gl) (a b : List Wr) (ha : a.length ≤ 1000000) (hb : Wr.szL b ≤ 1000000) (IH : ∀ x ∈ a, ∀ y : Wr, y.sz ≤ 1000000 → Go.Ot.Good Γ prog 23 [wA x, wA y] [] (.t (bol (sameW x y))) [] []) : Go.Ot.Good Γ prog 34 [wS a, wS b, .fn 23 []] [] (.t (bol (sameL a b))) [] [] := by
  refine a_body F.mix func34 (by rfl) ntmps34 ?_
  refine k_seq ?_
  refine k_region rfl ?_
  refine a_op ?_
  refine s_nil (r_false ?_)
  refine q_next ?_
  refine k_seq ?_
  refine k_seq ?_
  refine k_region rfl ?_
  iterate 5 refine a_op ?_
  refine s_nil (r_false ?_)
  refine q_next ?_
  refine a_if (fun hc0 => ?_) (fun hc0 => ?_)
  · (try simp only [Bool.and_eq_true, Bool.or_eq_true, Bool.or_eq_false_iff, Bool.not_eq_true', Bool.not_eq_false', dec_t, dec_f, Bool.and_eq_false_imp, beq_iff_eq, beq_eq_false_iff_ne, ne_eq] at hc0)
    have hs := sameL_len (a := a) (b := b) (by omega)
    refine k_seq ?_
    refine k_region rfl ?_
    refine a_op ?_
    refine s_nil (r_false ?_)
    refine q_next ?_
    refine k_ret ?_
    refine q_seq_ret ?_
    refine ⟨.inr rfl, a_ret [] (by rw [results34]) ?_ ?_ ?_⟩ <;> simp [-List.map_set, -List.map_replicate, -List.reduceReplicate, -List.map_map, -List.map_drop, -List.map_take, num, bol, txt, w8, w16, w32, w64, lst, cls, rowO, boxO, List.take_of_length_le, Wr.cellsL_len, wA, Wr.k_mk, Wr.n_mk, Wr.s_mk, Wr.l_mk, Wr.cellsL, Wr.z_eq, wS, hs]
  · (try simp only [Bool.and_eq_true, Bool.or_eq_true, Bool.or_eq_false_iff, Bool.not_eq_true', Bool.not_eq_false', dec_t, dec_f, Bool.and_eq_false_imp, beq_iff_eq, beq_eq_false_iff_ne, ne_eq] at hc0)
    have hl : a.length = b.length := by omega
    refine k_skip ?_
    refine q_next ?_
    refine k_seq ?_
    refine k_seq ?_
    refine k_region rfl ?_
    iterate 3 refine a_op ?_
    refine s_nil (r_false ?_)
    refine q_next ?_
    refine k_block ?_
    refine k_loopF (fun sl L (i : Nat) => ⟨setAll (setBad sl [0, 6, 7, 8, 9, 10, 11, 12, 13, 14, 18, 19, 20, 21, 22, 23, 24, 25, 26, 27, 28, 29, 30, 31]) [(17, .t (num i))], Go.Ot.look (L)⟩) (fun i => i ≤ a.length ∧ a.take i = b.take i) (fun i => a.length - i) (0) (a_le ?_) ?_ ?_
    · refine le_same ?_ ?_ ?_ <;> simp [-List.map_set, -List.map_replicate, -List.reduceReplicate, -List.map_map, -List.map_drop, -List.map_take, num, bol, txt, w8, w16, w32, w64, lst, cls, rowO, boxO, List.take_of_length_le, Wr.cellsL_len, wA, Wr.k_mk, Wr.n_mk, Wr.s_mk, Wr.l_mk, Wr.cellsL, Wr.z_eq, wS]
    · exact ⟨Nat.zero_le _, rfl⟩
    · rintro i ⟨h1, h2⟩
      refine a_st ?_
      refine k_seq ?_
      refine k_region rfl ?_
      refine a_op ?_
      refine s_nil (r_false ?_)
      refine q_next ?_
      refine k_seq ?_
      refine a_if (fun hc1 => ?_) (fun hc1 => ?_)
      · (try simp only [Bool.and_eq_true, Bool.or_eq_true, Bool.or_eq_false_iff, Bool.not_eq_true', Bool.not_eq_false', dec_t, dec_f, Bool.and_eq_false_imp, beq_iff_eq, beq_eq_false_iff_ne, ne_eq] at hc1)
        refine k_skip ?_
        refine q_next ?_
        refine k_seq ?_
        refine k_block ?_
        refine k_seq ?_
        refine k_region rfl ?_
        refine a_op ?_
        refine a_op ?_
        refine a_op (hc := by (rw [List.length_drop, Wr.cellsL_len]; omega)) ?_
        iterate 3 refine a_op ?_
        refine s_nil (r_false ?_)
        refine q_next ?_
        refine k_seq ?_
        refine k_region rfl ?_
        iterate 3 refine a_op ?_
        refine a_op (hc := by (rw [List.length_drop, Wr.cellsL_len]; omega)) ?_
        refine a_op ?_
        refine a_op ?_
        refine s_nil (r_false ?_)
        refine q_next ?_
        refine k_seq ?_
        refine k_region rfl ?_
        iterate 3 refine a_op ?_
        refine a_call [] false (IH (a.getD i default) (mem_getD (by omega)) (b.getD i default) (by have := Wr.sz_mem (mem_getD (l := b) (i := i) (by omega)); omega)) ?_
        refine a_op ?_
        refine s_nil (r_false ?_)
        refine q_next ?_
        refine a_if (fun hc2 => ?_) (fun hc2 => ?_)
        · (try simp only [Bool.and_eq_true, Bool.or_eq_true, Bool.or_eq_false_iff, Bool.not_eq_true', Bool.not_eq_false', dec_t, dec_f, Bool.and_eq_false_imp, beq_iff_eq, beq_eq_false_iff_ne, ne_eq] at hc2)
          have hs := sameL_bad (a := a) (b := b) (i := i) hc2
          refine k_seq ?_
          refine k_region rfl ?_
          refine a_op ?_
          refine s_nil (r_false ?_)
          refine q_next ?_
          refine k_ret ?_
          refine q_block_ret (q_seq_ret (q_loopF_ret (q_block_ret (q_seq_ret ?_))))
          refine ⟨.inr rfl, a_ret [] (by rw [results34]) ?_ ?_ ?_⟩ <;> simp [-List.map_set, -List.map_replicate, -List.reduceReplicate, -List.map_map, -List.map_drop, -List.map_take, num, bol, txt, w8, w16, w32, w64, lst, cls, rowO, boxO, List.take_of_length_le, Wr.cellsL_len, wA, Wr.k_mk, Wr.n_mk, Wr.s_mk, Wr.l_mk, Wr.cellsL, Wr.z_eq, wS, hs]
        · (try simp only [Bool.and_eq_true, Bool.or_eq_true, Bool.or_eq_false_iff, Bool.not_eq_true', Bool.not_eq_false', dec_t, dec_f, Bool.and_eq_false_imp, beq_iff_eq, beq_eq_false_iff_ne, ne_eq] at hc2)
          have hs := 0
          refine k_skip ?_
          refine q_block (q_next ?_)
          refine k_region rfl ?_
          refine a_op ?_
          refine a_op ?_
          refine s_nil (r_false ?_)
          refine q_loopF (i + 1) (a_le ?_) ?_ ?_
          · refine le_same ?_ ?_ ?_ <;> simp [-List.map_set, -List.map_replicate, -List.reduceReplicate, -List.map_map, -List.map_drop, -List.map_take, num, bol, txt, w8, w16, w32, w64, lst, cls, rowO, boxO, List.take_of_length_le, Wr.cellsL_len, wA, Wr.k_mk, Wr.n_mk, Wr.s_mk, Wr.l_mk, Wr.cellsL, Wr.z_eq, wS]
          · exact ⟨by omega, sameL_next h2 (by omega) hl hc2⟩
          · (first | omega | (simp only []; omega))
      · (try simp only [Bool.and_eq_true, Bool.or_eq_true, Bool.or_eq_false_iff, Bool.not_eq_true', Bool.not_eq_false', dec_t, dec_f, Bool.and_eq_false_imp, beq_iff_eq, beq_eq_false_iff_ne, ne_eq] at hc1)
        have hs := sameL_done h2 (by omega) hl
        refine k_exit ?_
        refine q_seq_exit (q_loopF_exit (q_block_exit (q_next ?_)))
        refine k_seq ?_
        refine k_region rfl ?_
        refine a_op ?_
        refine s_nil (r_false ?_)
        refine q_next ?_
        refine k_ret ?_
        refine ⟨.inr rfl, a_ret [] (by rw [results34]) ?_ ?_ ?_⟩ <;> simp [-List.map_set, -List.map_replicate, -List.reduceReplicate, -List.map_map, -List.map_drop, -List.map_take, num, bol, txt, w8, w16, w32, w64, lst, cls, rowO, boxO, List.take_of_length_le, Wr.cellsL_len, wA, Wr.k_mk, Wr.n_mk, Wr.s_mk, Wr.l_mk, Wr.cellsL, Wr.z_eq, wS, hs]

theorem same_step (Γ : Gl) (a b : Wr) (ha : a.l.length ≤ 1000000) (hb : Wr.szL b.l ≤ 1000000) (IH : ∀ x ∈ a.l, ∀ y : Wr, y.sz ≤ 1000000 → Go.Ot.Good Γ prog 23 [wA x, wA y] [] (.t (bol (sameW x y))) [] []) : Go.Ot.Good Γ prog 23 [wA a, wA b] [] (.t (bol (sameW a b))) [] [] := by
  refine a_body F.mix func23 (by rfl) ntmps23 ?_
  refine k_seq ?_
  refine k_region rfl ?_
  iterate 3 refine a_op ?_
  refine s_nil (r_false ?_)
  refine q_next ?_
  refine k_seq ?_
  refine k_region rfl ?_
  have h4 : a.k ≠ b.k ∨ (a.k = b.k ∧ a.n ≠ b.n) ∨ (a.k = b.k ∧ a.n = b.n ∧ a.s ≠ b.s) ∨ (a.k = b.k ∧ a.n = b.n ∧ a.s = b.s) := by
    by_cases h1 : a.k = b.k
    · by_cases h2 : a.n = b.n
      · by_cases h3 : a.s = b.s
        · exact .inr (.inr (.inr ⟨h1, h2, h3⟩))
        · exact .inr (.inr (.inl ⟨h1, h2, h3⟩))
      · exact .inr (.inl ⟨h1, h2⟩)
    · exact .inl h1
  rcases h4 with h1 | ⟨h1, h2⟩ | ⟨h1, h2, h3⟩ | ⟨h1, h2, h3⟩
  all_goals (try have h3' : (a.s == b.s) = false := by simp [h3])
  all_goals (try have h3t : (a.s == b.s) = true := by simp [h3])
  · skip
    iterate 4 refine a_op ?_
    refine a_op (hs := by (simp only [push_cast, h1] <;> rfl)) ?_
    refine a_op ?_
    refine a_no ?_
    refine a_no ?_
    refine a_no ?_
    refine a_no ?_
    refine a_no ?_
    refine a_op ?_
    refine a_op ?_
    refine a_no ?_
    refine a_no ?_
    refine a_no ?_
    refine a_no ?_
    refine a_no ?_
    refine a_op ?_
    refine a_op ?_
    refine a_no ?_
    refine a_no ?_
    refine a_no ?_
    refine a_no ?_
    refine a_no ?_
    refine a_op ?_
    refine a_op ?_
    refine s_nil (r_false ?_)
    refine q_next ?_
    refine k_ret ?_
    refine ⟨.inr rfl, a_ret [] (by rw [results23]) ?_ ?_ ?_⟩ <;> simp [-List.map_set, -List.map_replicate, -List.reduceReplicate, -List.map_map, -List.map_drop, -List.map_take, num, bol, txt, w8, w16, w32, w64, lst, cls, rowO, boxO, List.take_of_length_le, Wr.cellsL_len, wA, Wr.k_mk, Wr.n_mk, Wr.s_mk, Wr.l_mk, Wr.cellsL, Wr.z_eq, sameW_eq, h1]
  · skip
    iterate 4 refine a_op ?_
    refine a_op (hs := by (simp only [push_cast, h1] <;> rfl)) ?_
    refine a_op ?_
    refine a_go ?_
    refine a_go ?_
    refine a_go ?_
    refine a_go ?_
    refine a_go (hs := by (simp only [push_cast, h2] <;> rfl)) ?_
    refine a_op ?_
    refine a_op ?_
    refine a_no ?_
    refine a_no ?_
    refine a_no ?_
    refine a_no ?_
    refine a_no ?_
    refine a_op ?_
    refine a_op ?_
    refine a_no ?_
    refine a_no ?_
    refine a_no ?_
    refine a_no ?_
    refine a_no ?_
    refine a_op ?_
    refine a_op ?_
    refine s_nil (r_false ?_)
    refine q_next ?_
    refine k_ret ?_
    refine ⟨.inr rfl, a_ret [] (by rw [results23]) ?_ ?_ ?_⟩ <;> simp [-List.map_set, -List.map_replicate, -List.reduceReplicate, -List.map_map, -List.map_drop, -List.map_take, num, bol, txt, w8, w16, w32, w64, lst, cls, rowO, boxO, List.take_of_length_le, Wr.cellsL_len, wA, Wr.k_mk, Wr.n_mk, Wr.s_mk, Wr.l_mk, Wr.cellsL, Wr.z_eq, sameW_eq, h2]
  · skip
    iterate 4 refine a_op ?_
    refine a_op (hs := by (simp only [push_cast, h1] <;> rfl)) ?_
    refine a_op ?_
    refine a_go ?_
    refine a_go ?_
    refine a_go ?_
    refine a_go ?_
    refine a_go (hs := by (simp only [push_cast, h2] <;> rfl)) ?_
    refine a_op ?_
    refine a_op ?_
    refine a_go ?_
    refine a_go ?_
    refine a_go ?_
    refine a_go ?_
    refine a_go (hs := by (simp only [push_cast, h3'] <;> rfl)) ?_
    refine a_op ?_
    refine a_op ?_
    refine a_no ?_
    refine a_no ?_
    refine a_no ?_
    refine a_no ?_
    refine a_no ?_
    refine a_op ?_
    refine a_op ?_
    refine s_nil (r_false ?_)
    refine q_next ?_
    refine k_ret ?_
    refine ⟨.inr rfl, a_ret [] (by rw [results23]) ?_ ?_ ?_⟩ <;> simp [-List.map_set, -List.map_replicate, -List.reduceReplicate, -List.map_map, -List.map_drop, -List.map_take, num, bol, txt, w8, w16, w32, w64, lst, cls, rowO, boxO, List.take_of_length_le, Wr.cellsL_len, wA, Wr.k_mk, Wr.n_mk, Wr.s_mk, Wr.l_mk, Wr.cellsL, Wr.z_eq, sameW_eq, h3']
  · skip
    iterate 4 refine a_op ?_
    refine a_op (hs := by (simp only [push_cast, h1] <;> rfl)) ?_
    refine a_op ?_
    refine a_go ?_
    refine a_go ?_
    refine a_go ?_
    refine a_go ?_
    refine a_go (hs := by (simp only [push_cast, h2] <;> rfl)) ?_
    refine a_op ?_
    refine a_op ?_
    refine a_go ?_
    refine a_go ?_
    refine a_go ?_
    refine a_go ?_
    refine a_go (hs := by (simp only [push_cast, h3t] <;> rfl)) ?_
    refine a_op ?_
    refine a_op ?_
    refine a_go ?_
    refine a_go ?_
    refine a_go ?_
    refine a_go ?_
    refine a_callgo [] false (eqf_good Γ a.l b.l ha hb IH) ?_
    refine a_op ?_
    refine a_op ?_
    refine s_nil (r_false ?_)
    refine q_next ?_
    refine k_ret ?_
    refine ⟨.inr rfl, a_ret [] (by rw [results23]) ?_ ?_ ?_⟩ <;> simp [-List.map_set, -List.map_replicate, -List.reduceReplicate, -List.map_map, -List.map_drop, -List.map_take, num, bol, txt, w8, w16, w32, w64, lst, cls, rowO, boxO, List.take_of_length_le, Wr.cellsL_len, wA, Wr.k_mk, Wr.n_mk, Wr.s_mk, Wr.l_mk, Wr.cellsL, Wr.z_eq, sameW_eq, h1, h2, h3t]

theorem same_good (Γ : Gl) : ∀ (N : Nat) (a b : Wr), a.sz ≤ N → N ≤ 1000000 → b.sz ≤ 1000000 → Go.Ot.Good Γ prog 23 [wA a, wA b] [] (.t (bol (sameW a b))) [] []
  | 0, a, b, h, _, _ => by have := a.sz_pos; omega
  | N + 1, a, b, h, h2, h3 => same_step Γ a b (by cases a with | mk k n s l => have := sz_l k n s l; simp only [Wr.l_mk]; omega) (by cases b with | mk k n s l => simp only [Wr.l_mk]; simp [Wr.sz] at h3; omega) (fun v hv y hy => same_good Γ N v y (by have := Wr.sz_sub hv; omega) (by omega) hy)
theorem sameR_step (Γ : Gl) (a b : Wr) (ha : a.l.length ≤ 1000000) (hb : Wr.szL b.l ≤ 1000000) (IH : ∀ x ∈ a.l, ∀ y : Wr, y.sz ≤ 1000000 → Go.Ot.Good Γ prog 13 [wA x, wA y] [] (.t (bol (sameW x y))) [] []) : Go.Ot.Good Γ prog 13 [wA a, wA b] [] (.t (bol (sameW a b))) [] [] := by
  refine a_body F.mix func13 (by rfl) ntmps13 ?_
  refine k_seq ?_
  refine k_region rfl ?_
  iterate 3 refine a_op ?_
  refine s_nil (r_false ?_)
  refine q_next ?_
  refine k_seq ?_
  refine k_seq ?_
  refine k_region rfl ?_
  have h4 : a.k ≠ b.k ∨ (a.k = b.k ∧ a.n ≠ b.n) ∨ (a.k = b.k ∧ a.n = b.n ∧ a.s ≠ b.s) ∨ (a.k = b.k ∧ a.n = b.n ∧ a.s = b.s) := by
    by_cases h1 : a.k = b.k
    · by_cases h2 : a.n = b.n
      · by_cases h3 : a.s = b.s
        · exact .inr (.inr (.inr ⟨h1, h2, h3⟩))
        · exact .inr (.inr (.inl ⟨h1, h2, h3⟩))
      · exact .inr (.inl ⟨h1, h2⟩)
    · exact .inl h1
  rcases h4 with h1 | ⟨h1, h2⟩ | ⟨h1, h2, h3⟩ | ⟨h1, h2, h3⟩
  all_goals (try have h3' : (a.s == b.s) = false := by simp [h3])
  all_goals (try have h3t : (a.s == b.s) = true := by simp [h3])
  · skip
    iterate 4 refine a_op ?_
    refine a_op (hs := by (simp only [push_cast, h1] <;> rfl)) ?_
    refine a_op ?_
    refine a_no ?_
    refine a_no ?_
    refine a_no ?_
    refine a_no ?_
    refine a_no ?_
    refine a_op ?_
    refine a_op ?_
    refine a_no ?_
    refine a_no ?_
    refine a_no ?_
    refine a_no ?_
    refine a_no ?_
    refine a_op ?_
    refine a_op ?_
    refine a_no ?_
    refine a_no ?_
    refine a_no ?_
    refine a_no ?_
    refine a_no ?_
    refine a_no ?_
    refine a_no ?_
    refine a_op ?_
    refine s_nil (r_false ?_)
    refine q_next ?_
    refine a_true ?_
    refine k_seq ?_
    refine k_region rfl ?_
    refine a_op ?_
    refine s_nil (r_false ?_)
    refine q_next ?_
    refine k_ret ?_
    refine q_seq_ret ?_
    refine ⟨.inr rfl, a_ret [] (by rw [results13]) ?_ ?_ ?_⟩ <;> simp [-List.map_set, -List.map_replicate, -List.reduceReplicate, -List.map_map, -List.map_drop, -List.map_take, num, bol, txt, w8, w16, w32, w64, lst, cls, rowO, boxO, List.take_of_length_le, Wr.cellsL_len, wA, Wr.k_mk, Wr.n_mk, Wr.s_mk, Wr.l_mk, Wr.cellsL, Wr.z_eq, sameW_eq, h1]
  · skip
    iterate 4 refine a_op ?_
    refine a_op (hs := by (simp only [push_cast, h1] <;> rfl)) ?_
    refine a_op ?_
    refine a_go ?_
    refine a_go ?_
    refine a_go ?_
    refine a_go ?_
    refine a_go (hs := by (simp only [push_cast, h2] <;> rfl)) ?_
    refine a_op ?_
    refine a_op ?_
    refine a_no ?_
    refine a_no ?_
    refine a_no ?_
    refine a_no ?_
    refine a_no ?_
    refine a_op ?_
    refine a_op ?_
    refine a_no ?_
    refine a_no ?_
    refine a_no ?_
    refine a_no ?_
    refine a_no ?_
    refine a_no ?_
    refine a_no ?_
    refine a_op ?_
    refine s_nil (r_false ?_)
    refine q_next ?_
    refine a_true ?_
    refine k_seq ?_
    refine k_region rfl ?_
    refine a_op ?_
    refine s_nil (r_false ?_)
    refine q_next ?_
    refine k_ret ?_
    refine q_seq_ret ?_
    refine ⟨.inr rfl, a_ret [] (by rw [results13]) ?_ ?_ ?_⟩ <;> simp [-List.map_set, -List.map_replicate, -List.reduceReplicate, -List.map_map, -List.map_drop, -List.map_take, num, bol, txt, w8, w16, w32, w64, lst, cls, rowO, boxO, List.take_of_length_le, Wr.cellsL_len, wA, Wr.k_mk, Wr.n_mk, Wr.s_mk, Wr.l_mk, Wr.cellsL, Wr.z_eq, sameW_eq, h2]
  · skip
    iterate 4 refine a_op ?_
    refine a_op (hs := by (simp only [push_cast, h1] <;> rfl)) ?_
    refine a_op ?_
    refine a_go ?_
    refine a_go ?_
    refine a_go ?_
    refine a_go ?_
    refine a_go (hs := by (simp only [push_cast, h2] <;> rfl)) ?_
    refine a_op ?_
    refine a_op ?_
    refine a_go ?_
    refine a_go ?_
    refine a_go ?_
    refine a_go ?_
    refine a_go (hs := by (simp only [push_cast, h3'] <;> rfl)) ?_
    refine a_op ?_
    refine a_op ?_
    refine a_no ?_
    refine a_no ?_
    refine a_no ?_
    refine a_no ?_
    refine a_no ?_
    refine a_no ?_
    refine a_no ?_
    refine a_op ?_
    refine s_nil (r_false ?_)
    refine q_next ?_
    refine a_true ?_
    refine k_seq ?_
    refine k_region rfl ?_
    refine a_op ?_
    refine s_nil (r_false ?_)
    refine q_next ?_
    refine k_ret ?_
    refine q_seq_ret ?_
    refine ⟨.inr rfl, a_ret [] (by rw [results13]) ?_ ?_ ?_⟩ <;> simp [-List.map_set, -List.map_replicate, -List.reduceReplicate, -List.map_map, -List.map_drop, -List.map_take, num, bol, txt, w8, w16, w32, w64, lst, cls, rowO, boxO, List.take_of_length_le, Wr.cellsL_len, wA, Wr.k_mk, Wr.n_mk, Wr.s_mk, Wr.l_mk, Wr.cellsL, Wr.z_eq, sameW_eq, h3']
  · skip
    iterate 4 refine a_op ?_
    refine a_op (hs := by (simp only [push_cast, h1] <;> rfl)) ?_
    refine a_op ?_
    refine a_go ?_
    refine a_go ?_
    refine a_go ?_
    refine a_go ?_
    refine a_go (hs := by (simp only [push_cast, h2] <;> rfl)) ?_
    refine a_op ?_
    refine a_op ?_
    refine a_go ?_
    refine a_go ?_
    refine a_go ?_
    refine a_go ?_
    refine a_go (hs := by (simp only [push_cast, h3t] <;> rfl)) ?_
    refine a_op ?_
    refine a_op ?_
    refine a_go ?_
    refine a_go ?_
    refine a_go ?_
    refine a_go ?_
    refine a_go ?_
    refine a_go ?_
    refine a_go ?_
    refine a_op ?_
    refine s_nil (r_false ?_)
    refine q_next ?_
    refine a_if (fun hc0 => ?_) (fun hc0 => ?_)
    · (try simp only [Bool.and_eq_true, Bool.or_eq_true, Bool.or_eq_false_iff, Bool.not_eq_true', Bool.not_eq_false', dec_t, dec_f, Bool.and_eq_false_imp, beq_iff_eq, beq_eq_false_iff_ne, ne_eq] at hc0)
      have hs := sameL_len (a := a.l) (b := b.l) (by omega)
      refine k_seq ?_
      refine k_region rfl ?_
      refine a_op ?_
      refine s_nil (r_false ?_)
      refine q_next ?_
      refine k_ret ?_
      refine q_seq_ret ?_
      refine ⟨.inr rfl, a_ret [] (by rw [results13]) ?_ ?_ ?_⟩ <;> simp [-List.map_set, -List.map_replicate, -List.reduceReplicate, -List.map_map, -List.map_drop, -List.map_take, num, bol, txt, w8, w16, w32, w64, lst, cls, rowO, boxO, List.take_of_length_le, Wr.cellsL_len, wA, Wr.k_mk, Wr.n_mk, Wr.s_mk, Wr.l_mk, Wr.cellsL, Wr.z_eq, sameW_eq, h1, h2, h3t, hs]
    · (try simp only [Bool.and_eq_true, Bool.or_eq_true, Bool.or_eq_false_iff, Bool.not_eq_true', Bool.not_eq_false', dec_t, dec_f, Bool.and_eq_false_imp, beq_iff_eq, beq_eq_false_iff_ne, ne_eq] at hc0)
      have hl : a.l.length = b.l.length := by omega
      refine k_skip ?_
      refine q_next ?_
      refine k_seq ?_
      refine k_seq ?_
      refine k_region rfl ?_
      refine a_op ?_
      refine s_nil (r_false ?_)
      refine q_next ?_
      refine k_block ?_
      refine k_loopF (fun sl L (i : Nat) => ⟨setAll (setBad sl [0, 1, 4, 6, 7, 8, 9, 10, 11, 12, 13, 14, 15, 16, 17, 18, 19, 20, 21, 22, 23, 24, 25, 26, 27, 28, 29, 30, 31, 32, 33, 34, 35, 36, 37, 38, 39, 40, 41, 42, 43, 44, 45, 46, 47, 48, 49, 50, 51, 52]) [(5, .t (num i))], Go.Ot.look (L)⟩) (fun i => i ≤ a.l.length ∧ a.l.take i = b.l.take i) (fun i => a.l.length - i) (0) (a_le ?_) ?_ ?_
      · refine le_same ?_ ?_ ?_ <;> simp [-List.map_set, -List.map_replicate, -List.reduceReplicate, -List.map_map, -List.map_drop, -List.map_take, num, bol, txt, w8, w16, w32, w64, lst, cls, rowO, boxO, List.take_of_length_le, Wr.cellsL_len, wA, Wr.k_mk, Wr.n_mk, Wr.s_mk, Wr.l_mk, Wr.cellsL, Wr.z_eq]
      · exact ⟨Nat.zero_le _, rfl⟩
      · intro i hi
        refine a_st ?_
        refine k_seq ?_
        refine k_seq ?_
        refine k_region rfl ?_
        iterate 5 refine a_op ?_
        refine s_nil (r_false ?_)
        refine q_next ?_
        refine a_if (fun hc1 => ?_) (fun hc1 => ?_)
        · (try simp only [Bool.and_eq_true, Bool.or_eq_true, Bool.or_eq_false_iff, Bool.not_eq_true', Bool.not_eq_false', dec_t, dec_f, Bool.and_eq_false_imp, beq_iff_eq, beq_eq_false_iff_ne, ne_eq] at hc1)
          refine k_skip ?_
          refine q_next ?_
          refine k_seq ?_
          refine k_block ?_
          refine k_seq ?_
          refine k_region rfl ?_
          iterate 4 refine a_opd ?_
          refine a_opd (hc := by (rw [List.length_drop, Wr.cellsL_len]; omega)) ?_
          iterate 4 refine a_opd ?_
          refine a_opd (hc := by (rw [List.length_drop, Wr.cellsL_len]; omega)) ?_
          refine a_calld [] false (IH (a.l.getD i default) (mem_getD (by omega)) (b.l.getD i default) (by have := Wr.sz_mem (mem_getD (l := b.l) (i := i) (by omega)); omega)) ?_
          refine a_opd ?_
          refine s_nil (r_true (by kernel_rfl) ?_)
          refine q_next ?_
          refine a_if (fun hc2 => ?_) (fun hc2 => ?_)
          · (try simp only [Bool.and_eq_true, Bool.or_eq_true, Bool.or_eq_false_iff, Bool.not_eq_true', Bool.not_eq_false', dec_t, dec_f, Bool.and_eq_false_imp, beq_iff_eq, beq_eq_false_iff_ne, ne_eq] at hc2)
            have hs := sameL_bad (a := a.l) (b := b.l) (i := i) hc2
            refine k_seq ?_
            refine k_region rfl ?_
            refine a_op ?_
            refine s_nil (r_false ?_)
            refine q_next ?_
            refine k_ret ?_
            refine q_block_ret (q_seq_ret (q_loopF_ret (q_block_ret (q_seq_ret ?_))))
            refine ⟨.inr rfl, a_ret [] (by rw [results13]) ?_ ?_ ?_⟩ <;> simp [-List.map_set, -List.map_replicate, -List.reduceReplicate, -List.map_map, -List.map_drop, -List.map_take, num, bol, txt, w8, w16, w32, w64, lst, cls, rowO, boxO, List.take_of_length_le, Wr.cellsL_len, wA, Wr.k_mk, Wr.n_mk, Wr.s_mk, Wr.l_mk, Wr.cellsL, Wr.z_eq, sameW_eq, h1, h2, h3t, hs]
          · (try simp only [Bool.and_eq_true, Bool.or_eq_true, Bool.or_eq_false_iff, Bool.not_eq_true', Bool.not_eq_false', dec_t, dec_f, Bool.and_eq_false_imp, beq_iff_eq, beq_eq_false_iff_ne, ne_eq] at hc2)
            refine k_skip ?_
            refine q_block (q_next ?_)
            refine k_region rfl ?_
            iterate 3 refine a_op ?_
            refine s_nil (r_false ?_)
            refine q_loopF (i + 1) (a_le ?_) ?_ ?_
            · refine le_same ?_ ?_ ?_ <;> simp [-List.map_set, -List.map_replicate, -List.reduceReplicate, -List.map_map, -List.map_drop, -List.map_take, num, bol, txt, w8, w16, w32, w64, lst, cls, rowO, boxO, List.take_of_length_le, Wr.cellsL_len, wA, Wr.k_mk, Wr.n_mk, Wr.s_mk, Wr.l_mk, Wr.cellsL, Wr.z_eq]
            · exact ⟨by omega, sameL_next hi.2 (by omega) hl hc2⟩
            · (first | omega | (simp only []; omega))
        · (try simp only [Bool.and_eq_true, Bool.or_eq_true, Bool.or_eq_false_iff, Bool.not_eq_true', Bool.not_eq_false', dec_t, dec_f, Bool.and_eq_false_imp, beq_iff_eq, beq_eq_false_iff_ne, ne_eq] at hc1)
          have hs := sameL_done hi.2 (by omega) hl
          refine k_exit ?_
          refine q_seq_exit (q_loopF_exit (q_block_exit (q_next ?_)))
          refine k_seq ?_
          refine k_region rfl ?_
          refine a_op ?_
          refine s_nil (r_false ?_)
          refine q_next ?_
          refine k_ret ?_
          refine ⟨.inr rfl, a_ret [] (by rw [results13]) ?_ ?_ ?_⟩ <;> simp [-List.map_set, -List.map_replicate, -List.reduceReplicate, -List.map_map, -List.map_drop, -List.map_take, num, bol, txt, w8, w16, w32, w64, lst, cls, rowO, boxO, List.take_of_length_le, Wr.cellsL_len, wA, Wr.k_mk, Wr.n_mk, Wr.s_mk, Wr.l_mk, Wr.cellsL, Wr.z_eq, sameW_eq, h1, h2, h3t, hs]

theorem sameR_good (Γ : Gl) : ∀ (N : Nat) (a b : Wr), a.sz ≤ N → N ≤ 1000000 → b.sz ≤ 1000000 → Go.Ot.Good Γ prog 13 [wA a, wA b] [] (.t (bol (sameW a b))) [] []
  | 0, a, b, h, _, _ => by have := a.sz_pos; omega
  | N + 1, a, b, h, h2, h3 => sameR_step Γ a b (by cases a with | mk k n s l => have := sz_l k n s l; simp only [Wr.l_mk]; omega) (by cases b with | mk k n s l => simp only [Wr.l_mk]; simp [Wr.sz] at h3; omega) (fun v hv y hy => sameR_good Γ N v y (by have := Wr.sz_sub hv; omega) (by omega) hy)
end Go.Proofs.Tryd
