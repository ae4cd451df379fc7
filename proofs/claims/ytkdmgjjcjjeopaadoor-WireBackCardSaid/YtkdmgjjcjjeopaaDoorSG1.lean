/- Contracts of this program's functions. -/
import Derived.Test.YtkdmgjjcjjeopaaDoorSG0
set_option maxHeartbeats 4000000
set_option maxRecDepth 100000
set_option linter.unusedVariables false
set_option linter.unusedSimpArgs false
namespace Go.Proofs.Tryd
open Go Go.Ot
attribute [local irreducible] wpK wpS seqK blockK loopF regK meetK OpSpec Le rdS lpW rdW got mayS mayW ixF putS putW nb nbS u64 fmT manyS manyN mfold
theorem many_step (Γ : Gl) (f : Nat) (hf : f ≤ 21) (last : Bool) (hlast : last = decide (f = 0)) (sub : Wr → Int) (hsub : ∀ x, 0 ≤ sub x ∧ sub x ≤ 100000) (IH : 0 < f → ∀ w, Go.Ot.Good Γ prog 30 [wA w, .t (num ((21 : Int) - f + 1))] [] (.t (num (sub w))) [] []) (w : Wr) : Go.Ot.Good Γ prog 30 [wA w, .t (num ((21 : Int) - f))] [] (.t (num (manyS last sub w))) [] [] := by
  refine a_body F.mix func30 (by rfl) ntmps30 ?_
  refine k_seq ?_
  refine k_region rfl ?_
  refine a_op ?_
  refine a_op ?_
  refine s_nil (r_false ?_)
  refine q_next ?_
  refine k_seq ?_
  refine k_seq ?_
  refine k_region rfl ?_
  have h3 : last = true ∨ (last = false ∧ 100 < w.l.length) ∨ (last = false ∧ w.l.length ≤ 100 ∧ 600 < w.s.length) ∨ (last = false ∧ w.l.length ≤ 100 ∧ w.s.length ≤ 600) := by
    cases last
    · rcases Nat.lt_or_ge 100 w.l.length with h | h
      · exact .inr (.inl ⟨rfl, h⟩)
      · rcases Nat.lt_or_ge 600 w.s.length with h' | h'
        · exact .inr (.inr (.inl ⟨rfl, h, h'⟩))
        · exact .inr (.inr (.inr ⟨rfl, h, h'⟩))
    · exact .inl rfl
  rcases h3 with h1 | ⟨h1, h2⟩ | ⟨h1, h2, h3⟩ | ⟨h1, h2, h3⟩
  all_goals (try have hd := last_zero hlast h1)
  all_goals (try have hd := last_pos hlast h1)
  · skip
    iterate 3 refine a_op ?_
    refine a_no ?_
    refine a_no ?_
    refine a_no ?_
    refine a_no ?_
    refine a_op ?_
    refine a_op ?_
    refine a_no ?_
    refine a_no ?_
    refine a_no ?_
    refine a_no ?_
    refine a_op ?_
    refine s_nil (r_false ?_)
    refine q_next ?_
    refine a_true ?_
    refine k_seq ?_
    refine k_region rfl ?_
    have he := manyS_t (last := last) (sub := sub) (w := w) (.inl h1)
    refine a_op ?_
    refine s_nil (r_false ?_)
    refine q_next ?_
    refine k_ret ?_
    refine q_seq_ret ?_
    refine ⟨.inr rfl, a_ret [] (by rw [results30]) ?_ ?_ ?_⟩ <;> simp [-List.map_set, -List.map_replicate, -List.reduceReplicate, -List.map_map, -List.map_drop, -List.map_take, num, bol, txt, w8, w16, w32, w64, lst, cls, rowO, boxO, List.take_of_length_le, Wr.cellsL_len, wA, Wr.k_mk, Wr.n_mk, Wr.s_mk, Wr.l_mk, Wr.cellsL, Wr.z_eq, he]
  · skip
    iterate 3 refine a_op ?_
    refine a_go ?_
    refine a_go ?_
    refine a_go ?_
    refine a_go ?_
    refine a_op ?_
    refine a_op ?_
    refine a_no ?_
    refine a_no ?_
    refine a_no ?_
    refine a_no ?_
    refine a_op ?_
    refine s_nil (r_false ?_)
    refine q_next ?_
    refine a_true ?_
    refine k_seq ?_
    refine k_region rfl ?_
    have he := manyS_t (last := last) (sub := sub) (w := w) (by omega)
    refine a_op ?_
    refine s_nil (r_false ?_)
    refine q_next ?_
    refine k_ret ?_
    refine q_seq_ret ?_
    refine ⟨.inr rfl, a_ret [] (by rw [results30]) ?_ ?_ ?_⟩ <;> simp [-List.map_set, -List.map_replicate, -List.reduceReplicate, -List.map_map, -List.map_drop, -List.map_take, num, bol, txt, w8, w16, w32, w64, lst, cls, rowO, boxO, List.take_of_length_le, Wr.cellsL_len, wA, Wr.k_mk, Wr.n_mk, Wr.s_mk, Wr.l_mk, Wr.cellsL, Wr.z_eq, he]
  · skip
    iterate 3 refine a_op ?_
    refine a_go ?_
    refine a_go ?_
    refine a_go ?_
    refine a_go ?_
    refine a_op ?_
    refine a_op ?_
    refine a_go ?_
    refine a_go ?_
    refine a_go ?_
    refine a_go ?_
    refine a_op ?_
    refine s_nil (r_false ?_)
    refine q_next ?_
    refine a_true ?_
    refine k_seq ?_
    refine k_region rfl ?_
    have he := manyS_t (last := last) (sub := sub) (w := w) (by omega)
    refine a_op ?_
    refine s_nil (r_false ?_)
    refine q_next ?_
    refine k_ret ?_
    refine q_seq_ret ?_
    refine ⟨.inr rfl, a_ret [] (by rw [results30]) ?_ ?_ ?_⟩ <;> simp [-List.map_set, -List.map_replicate, -List.reduceReplicate, -List.map_map, -List.map_drop, -List.map_take, num, bol, txt, w8, w16, w32, w64, lst, cls, rowO, boxO, List.take_of_length_le, Wr.cellsL_len, wA, Wr.k_mk, Wr.n_mk, Wr.s_mk, Wr.l_mk, Wr.cellsL, Wr.z_eq, he]
  · skip
    iterate 3 refine a_op ?_
    refine a_go ?_
    refine a_go ?_
    refine a_go ?_
    refine a_go ?_
    refine a_op ?_
    refine a_op ?_
    refine a_go ?_
    refine a_go ?_
    refine a_go ?_
    refine a_go ?_
    refine a_op ?_
    refine s_nil (r_false ?_)
    refine q_next ?_
    refine a_false ?_
    refine k_skip ?_
    refine q_next ?_
    refine k_seq ?_
    refine k_region rfl ?_
    refine a_op ?_
    refine s_nil (r_false ?_)
    refine q_next ?_
    refine k_seq ?_
    refine k_seq ?_
    refine k_region rfl ?_
    refine a_op ?_
    refine s_nil (r_false ?_)
    refine q_next ?_
    refine k_block ?_
    refine k_loopF (fun sl L (i : Nat) => ⟨setAll (setBad sl [0, 7, 8, 9, 10, 11, 12, 13, 14, 15, 16, 17, 18, 19, 20, 21, 22, 23, 24, 25, 26, 27, 28, 29, 30, 31, 32, 33, 34, 35, 36, 37, 38, 39, 40, 41]) [(5, .t (num (mfold sub (w.l.take i) 1))), (6, .t (num i))], Go.Ot.look (L)⟩) (fun i => i ≤ w.l.length) (fun i => w.l.length - i) (0) (a_le ?_) ?_ ?_
    · refine le_same ?_ ?_ ?_ <;> simp [-List.map_set, -List.map_replicate, -List.reduceReplicate, -List.map_map, -List.map_drop, -List.map_take, num, bol, txt, w8, w16, w32, w64, lst, cls, rowO, boxO, List.take_of_length_le, Wr.cellsL_len, wA, Wr.k_mk, Wr.n_mk, Wr.s_mk, Wr.l_mk, Wr.cellsL, Wr.z_eq, mfold_nil]
    · (first | omega | simp)
    · intro i hi
      have hmf := mfold_le (sub := sub) (B := 100000) (by omega) (l := w.l.take i) (n := 1) (fun x _ => hsub x) (by omega) (by omega)
      refine a_st ?_
      refine k_seq ?_
      refine k_seq ?_
      refine k_region rfl ?_
      have h5 : (i < w.l.length ∧ mfold sub (w.l.take i) 1 < 1000) ∨ (i < w.l.length ∧ 1000 ≤ mfold sub (w.l.take i) 1) ∨ i = w.l.length := by omega
      rcases h5 with ⟨h4, h5⟩ | ⟨h4, h5⟩ | h4
      · skip
        iterate 6 refine a_op ?_
        refine a_go ?_
        refine a_go ?_
        refine a_op ?_
        refine s_nil (r_false ?_)
        refine q_next ?_
        refine a_true ?_
        refine k_skip ?_
        refine q_next ?_
        refine k_seq ?_
        refine k_block ?_
        refine k_region rfl ?_
        have hsb := hsub (w.l.getD i default)
        iterate 5 refine a_op ?_
        refine a_op (hc := by (rw [List.length_drop, Wr.cellsL_len]; omega)) ?_
        refine a_op ?_
        refine a_op ?_
        refine a_call [] false (IH hd (w.l.getD i default)) ?_
        refine a_op ?_
        refine a_op ?_
        refine s_nil (r_false ?_)
        refine q_block (q_next ?_)
        refine k_region rfl ?_
        iterate 3 refine a_op ?_
        refine s_nil (r_false ?_)
        refine q_loopF (i + 1) (a_le ?_) ?_ ?_
        · refine le_same ?_ ?_ ?_ <;> simp [-List.map_set, -List.map_replicate, -List.reduceReplicate, -List.map_map, -List.map_drop, -List.map_take, num, bol, txt, w8, w16, w32, w64, lst, cls, rowO, boxO, List.take_of_length_le, Wr.cellsL_len, wA, Wr.k_mk, Wr.n_mk, Wr.s_mk, Wr.l_mk, Wr.cellsL, Wr.z_eq, mfold_next h4 h5]
        · (first | omega | (simp_all <;> omega))
        · (first | omega | (simp only []; omega))
      · skip
        iterate 6 refine a_op ?_
        refine a_go ?_
        refine a_go ?_
        refine a_op ?_
        refine s_nil (r_false ?_)
        refine q_next ?_
        refine a_false ?_
        refine k_exit ?_
        refine q_seq_exit (q_loopF_exit (q_block_exit (q_next ?_)))
        refine k_seq ?_
        refine k_region rfl ?_
        have he : manyS last sub w = mfold sub (w.l.take i) 1 := by
          rw [manyS_f (by rw [h1]; simp; omega)]
          exact mfold_done h5
        refine a_op ?_
        refine a_op ?_
        refine s_nil (r_false ?_)
        refine q_next ?_
        refine k_ret ?_
        refine ⟨.inr rfl, a_ret [] (by rw [results30]) ?_ ?_ ?_⟩ <;> simp [-List.map_set, -List.map_replicate, -List.reduceReplicate, -List.map_map, -List.map_drop, -List.map_take, num, bol, txt, w8, w16, w32, w64, lst, cls, rowO, boxO, List.take_of_length_le, Wr.cellsL_len, wA, Wr.k_mk, Wr.n_mk, Wr.s_mk, Wr.l_mk, Wr.cellsL, Wr.z_eq, he]
      · skip
        iterate 6 refine a_op ?_
        refine a_no ?_
        refine a_no ?_
        refine a_op ?_
        refine s_nil (r_false ?_)
        refine q_next ?_
        refine a_false ?_
        refine k_exit ?_
        refine q_seq_exit (q_loopF_exit (q_block_exit (q_next ?_)))
        refine k_seq ?_
        refine k_region rfl ?_
        have he : manyS last sub w = mfold sub (w.l.take i) 1 := by
          rw [manyS_f (by rw [h1]; simp; omega)]
          rw [h4, List.take_length]
        refine a_op ?_
        refine a_op ?_
        refine s_nil (r_false ?_)
        refine q_next ?_
        refine k_ret ?_
        refine ⟨.inr rfl, a_ret [] (by rw [results30]) ?_ ?_ ?_⟩ <;> simp [-List.map_set, -List.map_replicate, -List.reduceReplicate, -List.map_map, -List.map_drop, -List.map_take, num, bol, txt, w8, w16, w32, w64, lst, cls, rowO, boxO, List.take_of_length_le, Wr.cellsL_len, wA, Wr.k_mk, Wr.n_mk, Wr.s_mk, Wr.l_mk, Wr.cellsL, Wr.z_eq, he, h4, List.take_length]

theorem many_good (Γ : Gl) : ∀ (f : Nat), f ≤ 21 → ∀ w, Go.Ot.Good Γ prog 30 [wA w, .t (num ((21 : Int) - f))] [] (.t (num (manyN f w))) [] []
  | 0, h, w => by rw [manyN_z]; exact many_step Γ 0 h true (by simp) (fun _ => 0) (fun _ => by omega) (fun h => by omega) w
  | f + 1, h, w => by
    rw [manyN_s]
    exact many_step Γ (f + 1) h false (by simp) (manyN f) (fun x => by have := manyN_le f x; omega) (fun _ w => by
      have := many_good Γ f (by omega) w
      rwa [show (21 : Int) - ((f + 1 : Nat) : Int) + 1 = (21 : Int) - f from by omega]) w
theorem Great_good (Γ : Gl) (w : Wr) : Go.Ot.Good Γ prog 20 [wA w] [] (.t (bol (decide (300 < manyN 21 w)))) [] [] := by
  refine a_body F.mix func20 (by rfl) ntmps20 ?_
  refine k_seq ?_
  refine k_region rfl ?_
  refine a_op ?_
  refine a_op ?_
  refine s_nil (r_false ?_)
  refine q_next ?_
  refine k_seq ?_
  refine k_region rfl ?_
  refine a_op ?_
  refine a_call [] false ((by have h := many_good Γ 21 (by omega) w; rwa [show (21 : Int) - ((21 : Nat) : Int) = 0 from by omega] at h)) ?_
  refine a_op ?_
  refine a_op ?_
  refine s_nil (r_false ?_)
  refine q_next ?_
  refine k_ret ?_
  refine ⟨.inr rfl, a_ret [] (by rw [results20]) ?_ ?_ ?_⟩ <;> simp [-List.map_set, -List.map_replicate, -List.reduceReplicate, -List.map_map, -List.map_drop, -List.map_take, num, bol, txt, w8, w16, w32, w64, lst, cls, rowO, boxO, List.take_of_length_le, Wr.cellsL_len, wA, Wr.k_mk, Wr.n_mk, Wr.s_mk, Wr.l_mk, Wr.cellsL, Wr.z_eq]

end Go.Proofs.Tryd
