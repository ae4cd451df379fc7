/- Contracts of this program's functions. -/
import Derived.Test.YtemehffhagfpbaaGreatDoorSME0
set_option maxHeartbeats 4000000
set_option maxRecDepth 100000
set_option linter.unusedVariables false
set_option linter.unusedSimpArgs false
namespace Go.Proofs.Tryz
open Go Go.Ot
attribute [local irreducible] wpK wpS seqK blockK loopF regK meetK OpSpec Le rdS lpW rdW got mayS mayW putS putW nb u64 PutW mwB sha rcF hdF hsh
theorem dev_ok (Γ : Gl) (n : Int) (h0 : 0 ≤ n) (h1 : n < 8) : Go.Ot.Good Γ prog 38 [.t (num n)] [] (.t (bol true)) [] [] := by
 refine a_body F.mix func38 (by rfl) ntmps38 ?_
 refine k_seq ?_
 refine k_region rfl ?_
 refine a_op ?_
 refine s_nil (r_false ?_)
 refine q_next ?_
 refine k_seq ?_
 refine k_region rfl ?_
 iterate 3 refine a_op ?_
 refine a_go ?_
 refine a_go ?_
 refine a_op ?_
 refine a_op ?_
 refine s_nil (r_false ?_)
 refine q_next ?_
 refine k_ret ?_
 refine ⟨.inr rfl, a_ret [] (by rw [results38]) ?_ ?_ ?_⟩ <;> simp [-List.map_set, -List.map_replicate, -List.reduceReplicate, -List.map_map, -List.map_drop, -List.map_take, num, bol, txt, w8, w16, w32, w64, lst, cls, rowO, boxO, List.take_of_length_le]

theorem dev_no (Γ : Gl) (n : Int) (h : n < 0 ∨ 8 ≤ n) : Go.Ot.Good Γ prog 38 [.t (num n)] [] (.t (bol false)) [] [] := by
 refine a_body F.mix func38 (by rfl) ntmps38 ?_
 refine k_seq ?_
 refine k_region rfl ?_
 refine a_op ?_
 refine s_nil (r_false ?_)
 refine q_next ?_
 refine k_seq ?_
 refine k_region rfl ?_
 rcases h with h | h
 ·skip
  iterate 3 refine a_op ?_
  refine a_no ?_
  refine a_no ?_
  refine a_op ?_
  refine a_op ?_
  refine s_nil (r_false ?_)
  refine q_next ?_
  refine k_ret ?_
  refine ⟨.inr rfl, a_ret [] (by rw [results38]) ?_ ?_ ?_⟩ <;> simp [-List.map_set, -List.map_replicate, -List.reduceReplicate, -List.map_map, -List.map_drop, -List.map_take, num, bol, txt, w8, w16, w32, w64, lst, cls, rowO, boxO, List.take_of_length_le]
 ·skip
  iterate 3 refine a_op ?_
  refine a_go ?_
  refine a_go ?_
  refine a_op ?_
  refine a_op ?_
  refine s_nil (r_false ?_)
  refine q_next ?_
  refine k_ret ?_
  refine ⟨.inr rfl, a_ret [] (by rw [results38]) ?_ ?_ ?_⟩ <;> simp [-List.map_set, -List.map_replicate, -List.reduceReplicate, -List.map_map, -List.map_drop, -List.map_take, num, bol, txt, w8, w16, w32, w64, lst, cls, rowO, boxO, List.take_of_length_le]

theorem mw_good (Γ : Gl) (l : List Wp) (hl : l.length ≤ 9223372036854775807) : Go.Ot.Good Γ prog 39 [.t (.sl l.length (l.flatMap wpT))] [] (.t (bol (mwB l))) [] [] := by
 refine a_body F.mix func39 (by rfl) ntmps39 ?_
 refine k_seq ?_
 refine k_region rfl ?_
 refine a_op ?_
 refine s_nil (r_false ?_)
 refine q_next ?_
 refine k_seq ?_
 refine k_seq ?_
 refine k_region rfl ?_
 iterate 3 refine a_op ?_
 refine s_nil (r_false ?_)
 refine q_next ?_
 refine k_block ?_
 refine k_loopF (fun sl L (i : Nat) => ⟨setAll (setBad sl [2, 3, 4, 8, 9, 10, 11, 12, 13, 14, 15, 16, 17, 18, 19, 20, 21, 22, 23, 24, 25, 26, 27, 28, 29, 30, 31, 32, 33, 34, 35, 36, 37]) [(7, .t (num i))], Go.Ot.look (L)⟩) (fun i => i ≤ l.length ∧ ∀ j, j < i → wpOk l j = true) (fun i => l.length - i) (0) (a_le ?_) ?_ ?_
 ·refine le_same ?_ ?_ ?_ <;> simp [-List.map_set, -List.map_replicate, -List.reduceReplicate, -List.map_map, -List.map_drop, -List.map_take, num, bol, txt, w8, w16, w32, w64, lst, cls, rowO, boxO, List.take_of_length_le, Wr.cellsL_len, wA, Wr.k_mk, Wr.n_mk, Wr.s_mk, Wr.l_mk, Wr.cellsL, Wr.z_eq, rcT, wpT]
 ·exact ⟨Nat.zero_le _, fun j hj => by omega⟩
 ·rintro i ⟨hi, hI⟩
  refine a_st ?_
  refine k_seq ?_
  refine k_region rfl ?_
  refine a_op ?_
  refine s_nil (r_false ?_)
  refine q_next ?_
  refine k_seq ?_
  refine a_if (fun hc0 => ?_) (fun hc0 => ?_)
  ·(try simp only [Bool.and_eq_true, Bool.or_eq_true, Bool.or_eq_false_iff, Bool.not_eq_true', Bool.not_eq_false', dec_t, dec_f, Bool.and_eq_false_imp, beq_iff_eq, beq_eq_false_iff_ne, ne_eq] at hc0)
   refine k_skip ?_
   refine q_next ?_
   refine k_seq ?_
   refine k_block ?_
   refine k_seq ?_
   refine k_region rfl ?_
   iterate 3 refine a_op ?_
   obtain ⟨e, he⟩ : ∃ e, l.getD i default = e := ⟨_, rfl⟩
   simp only [he]
   iterate 3 refine a_op ?_
   refine s_nil (r_false ?_)
   refine q_next ?_
   refine k_seq ?_
   refine k_region rfl ?_
   have h5 : (e.dev < 0 ∨ 8 ≤ e.dev) ∨ (0 ≤ e.dev ∧ e.dev < 8 ∧ 200 < e.box.length) ∨ (0 ≤ e.dev ∧ e.dev < 8 ∧ e.box.length ≤ 200 ∧ i = 0) ∨ (0 ≤ e.dev ∧ e.dev < 8 ∧ e.box.length ≤ 200 ∧ (∃ k, i = k + 1) ∧ e.dev ≤ (l.getD (i - 1) default).dev) ∨ (0 ≤ e.dev ∧ e.dev < 8 ∧ e.box.length ≤ 200 ∧ (∃ k, i = k + 1) ∧ (l.getD (i - 1) default).dev < e.dev) := by
    have : i = 0 ∨ ∃ k, i = k + 1 := by cases i with | zero => exact .inl rfl | succ k => exact .inr ⟨k, rfl⟩
    rcases this with rfl | ⟨k, hk⟩
    ·omega
    ·have hk' : ∃ k, i = k + 1 := ⟨k, hk⟩
     simp only [hk', true_and]
     omega
   rcases h5 with h | ⟨h0, h1, h⟩ | ⟨h0, h1, h2, rfl⟩ | ⟨h0, h1, h2, ⟨k, rfl⟩, h3⟩ | ⟨h0, h1, h2, ⟨k, rfl⟩, h3⟩
   ·try rw [Nat.add_sub_cancel] at h3
    first | (have hn := ok_next hI (by rw [he]; first | exact ⟨h0, h1, h2, fun hh => by omega⟩ | exact ⟨h0, h1, h2, fun _ => by rw [Nat.add_sub_cancel]; exact h3⟩)) | (have hm : mwB l = false := mwB_no (i := i) (by omega) (by rw [he]; first | (rintro ⟨a, b, c, d⟩; omega) | (rintro ⟨a, b, c, d⟩; have := d (by omega); rw [Nat.add_sub_cancel] at this; omega))) | (have hm : mwB l = false := mwB_no (i := k + 1) (by omega) (by rw [he]; first | (rintro ⟨a, b, c, d⟩; omega) | (rintro ⟨a, b, c, d⟩; have := d (by omega); rw [Nat.add_sub_cancel] at this; omega)))
    refine a_opd ?_
    refine a_opd ?_
    refine a_calld [] false (dev_no Γ e.dev h) ?_
    refine a_opd ?_
    refine a_opd ?_
    refine a_nod ?_
    refine a_nod ?_
    refine a_nod ?_
    refine a_nod ?_
    refine a_opd ?_
    refine a_opd ?_
    refine a_nod ?_
    refine a_nod ?_
    refine a_nod ?_
    refine a_nod ?_
    refine a_nod ?_
    refine a_nod ?_
    refine a_nod ?_
    refine a_nod ?_
    refine a_nod ?_
    refine a_nod ?_
    refine a_nod ?_
    refine a_nod ?_
    refine a_nod ?_
    refine a_opd ?_
    refine s_nil (r_true (by kernel_rfl) ?_)
    refine q_next ?_
    refine a_true ?_
    refine k_seq ?_
    refine k_region rfl ?_
    refine a_op ?_
    refine s_nil (r_false ?_)
    refine q_next ?_
    refine k_ret ?_
    refine q_block_ret (q_seq_ret (q_loopF_ret (q_block_ret (q_seq_ret ?_))))
    refine ⟨.inr rfl, a_ret [] (by rw [results39]) ?_ ?_ ?_⟩ <;> simp [-List.map_set, -List.map_replicate, -List.reduceReplicate, -List.map_map, -List.map_drop, -List.map_take, num, bol, txt, w8, w16, w32, w64, lst, cls, rowO, boxO, List.take_of_length_le, Wr.cellsL_len, wA, Wr.k_mk, Wr.n_mk, Wr.s_mk, Wr.l_mk, Wr.cellsL, Wr.z_eq, rcT, wpT, hm]
   ·try rw [Nat.add_sub_cancel] at h3
    first | (have hn := ok_next hI (by rw [he]; first | exact ⟨h0, h1, h2, fun hh => by omega⟩ | exact ⟨h0, h1, h2, fun _ => by rw [Nat.add_sub_cancel]; exact h3⟩)) | (have hm : mwB l = false := mwB_no (i := i) (by omega) (by rw [he]; first | (rintro ⟨a, b, c, d⟩; omega) | (rintro ⟨a, b, c, d⟩; have := d (by omega); rw [Nat.add_sub_cancel] at this; omega))) | (have hm : mwB l = false := mwB_no (i := k + 1) (by omega) (by rw [he]; first | (rintro ⟨a, b, c, d⟩; omega) | (rintro ⟨a, b, c, d⟩; have := d (by omega); rw [Nat.add_sub_cancel] at this; omega)))
    refine a_opd ?_
    refine a_opd ?_
    refine a_calld [] false (dev_ok Γ e.dev h0 h1) ?_
    refine a_opd ?_
    refine a_opd ?_
    refine a_god ?_
    refine a_god ?_
    refine a_god ?_
    refine a_god ?_
    refine a_opd ?_
    refine a_opd ?_
    refine a_nod ?_
    refine a_nod ?_
    refine a_nod ?_
    refine a_nod ?_
    refine a_nod ?_
    refine a_nod ?_
    refine a_nod ?_
    refine a_nod ?_
    refine a_nod ?_
    refine a_nod ?_
    refine a_nod ?_
    refine a_nod ?_
    refine a_nod ?_
    refine a_opd ?_
    refine s_nil (r_true (by kernel_rfl) ?_)
    refine q_next ?_
    refine a_true ?_
    refine k_seq ?_
    refine k_region rfl ?_
    refine a_op ?_
    refine s_nil (r_false ?_)
    refine q_next ?_
    refine k_ret ?_
    refine q_block_ret (q_seq_ret (q_loopF_ret (q_block_ret (q_seq_ret ?_))))
    refine ⟨.inr rfl, a_ret [] (by rw [results39]) ?_ ?_ ?_⟩ <;> simp [-List.map_set, -List.map_replicate, -List.reduceReplicate, -List.map_map, -List.map_drop, -List.map_take, num, bol, txt, w8, w16, w32, w64, lst, cls, rowO, boxO, List.take_of_length_le, Wr.cellsL_len, wA, Wr.k_mk, Wr.n_mk, Wr.s_mk, Wr.l_mk, Wr.cellsL, Wr.z_eq, rcT, wpT, hm]
   ·try rw [Nat.add_sub_cancel] at h3
    first | (have hn := ok_next hI (by rw [he]; first | exact ⟨h0, h1, h2, fun hh => by omega⟩ | exact ⟨h0, h1, h2, fun _ => by rw [Nat.add_sub_cancel]; exact h3⟩)) | (have hm : mwB l = false := mwB_no (i := i) (by omega) (by rw [he]; first | (rintro ⟨a, b, c, d⟩; omega) | (rintro ⟨a, b, c, d⟩; have := d (by omega); rw [Nat.add_sub_cancel] at this; omega))) | (have hm : mwB l = false := mwB_no (i := k + 1) (by omega) (by rw [he]; first | (rintro ⟨a, b, c, d⟩; omega) | (rintro ⟨a, b, c, d⟩; have := d (by omega); rw [Nat.add_sub_cancel] at this; omega)))
    refine a_opd ?_
    refine a_opd ?_
    refine a_calld [] false (dev_ok Γ e.dev h0 h1) ?_
    refine a_opd ?_
    refine a_opd ?_
    refine a_god ?_
    refine a_god ?_
    refine a_god ?_
    refine a_god ?_
    refine a_opd ?_
    refine a_opd ?_
    refine a_god ?_
    refine a_god ?_
    refine a_god ?_
    refine a_nod ?_
    refine a_nod ?_
    refine a_nod ?_
    refine a_nod ?_
    refine a_nod ?_
    refine a_nod ?_
    refine a_nod ?_
    refine a_nod ?_
    refine a_nod ?_
    refine a_god ?_
    refine a_opd ?_
    refine s_nil (r_true (by kernel_rfl) ?_)
    refine q_next ?_
    refine a_false ?_
    refine k_skip ?_
    refine q_block (q_next ?_)
    refine k_region rfl ?_
    refine a_op ?_
    refine a_op ?_
    refine s_nil (r_false ?_)
    refine q_loopF (0 + 1) (a_le ?_) ?_ ?_
    ·refine le_same ?_ ?_ ?_ <;> simp [-List.map_set, -List.map_replicate, -List.reduceReplicate, -List.map_map, -List.map_drop, -List.map_take, num, bol, txt, w8, w16, w32, w64, lst, cls, rowO, boxO, List.take_of_length_le, Wr.cellsL_len, wA, Wr.k_mk, Wr.n_mk, Wr.s_mk, Wr.l_mk, Wr.cellsL, Wr.z_eq, rcT, wpT]
    ·exact ⟨by omega, hn⟩
    ·(first | omega | (simp only []; omega))
   ·try rw [Nat.add_sub_cancel] at h3
    first | (have hn := ok_next hI (by rw [he]; first | exact ⟨h0, h1, h2, fun hh => by omega⟩ | exact ⟨h0, h1, h2, fun _ => by rw [Nat.add_sub_cancel]; exact h3⟩)) | (have hm : mwB l = false := mwB_no (i := i) (by omega) (by rw [he]; first | (rintro ⟨a, b, c, d⟩; omega) | (rintro ⟨a, b, c, d⟩; have := d (by omega); rw [Nat.add_sub_cancel] at this; omega))) | (have hm : mwB l = false := mwB_no (i := k + 1) (by omega) (by rw [he]; first | (rintro ⟨a, b, c, d⟩; omega) | (rintro ⟨a, b, c, d⟩; have := d (by omega); rw [Nat.add_sub_cancel] at this; omega)))
    refine a_opd ?_
    refine a_opd ?_
    refine a_calld [] false (dev_ok Γ e.dev h0 h1) ?_
    refine a_opd ?_
    refine a_opd ?_
    refine a_god ?_
    refine a_god ?_
    refine a_god ?_
    refine a_god ?_
    refine a_opd ?_
    refine a_opd ?_
    refine a_god ?_
    refine a_god ?_
    refine a_god ?_
    refine a_god ?_
    refine a_god ?_
    refine a_god (hs := by (simp (disch := omega) only [push_cast, reduceCtorEq, show ((k : Int) + 1 - 1) = k from by omega] <;> rfl)) ?_
    refine a_god ?_
    refine a_god ?_
    refine a_god ?_
    refine a_god ?_
    refine a_god ?_
    refine a_god ?_
    refine a_god ?_
    refine a_opd ?_
    refine s_nil (r_true (by kernel_rfl) ?_)
    refine q_next ?_
    refine a_true ?_
    refine k_seq ?_
    refine k_region rfl ?_
    refine a_op ?_
    refine s_nil (r_false ?_)
    refine q_next ?_
    refine k_ret ?_
    refine q_block_ret (q_seq_ret (q_loopF_ret (q_block_ret (q_seq_ret ?_))))
    refine ⟨.inr rfl, a_ret [] (by rw [results39]) ?_ ?_ ?_⟩ <;> simp [-List.map_set, -List.map_replicate, -List.reduceReplicate, -List.map_map, -List.map_drop, -List.map_take, num, bol, txt, w8, w16, w32, w64, lst, cls, rowO, boxO, List.take_of_length_le, Wr.cellsL_len, wA, Wr.k_mk, Wr.n_mk, Wr.s_mk, Wr.l_mk, Wr.cellsL, Wr.z_eq, rcT, wpT, hm]
   ·try rw [Nat.add_sub_cancel] at h3
    first | (have hn := ok_next hI (by rw [he]; first | exact ⟨h0, h1, h2, fun hh => by omega⟩ | exact ⟨h0, h1, h2, fun _ => by rw [Nat.add_sub_cancel]; exact h3⟩)) | (have hm : mwB l = false := mwB_no (i := i) (by omega) (by rw [he]; first | (rintro ⟨a, b, c, d⟩; omega) | (rintro ⟨a, b, c, d⟩; have := d (by omega); rw [Nat.add_sub_cancel] at this; omega))) | (have hm : mwB l = false := mwB_no (i := k + 1) (by omega) (by rw [he]; first | (rintro ⟨a, b, c, d⟩; omega) | (rintro ⟨a, b, c, d⟩; have := d (by omega); rw [Nat.add_sub_cancel] at this; omega)))
    refine a_opd ?_
    refine a_opd ?_
    refine a_calld [] false (dev_ok Γ e.dev h0 h1) ?_
    refine a_opd ?_
    refine a_opd ?_
    refine a_god ?_
    refine a_god ?_
    refine a_god ?_
    refine a_god ?_
    refine a_opd ?_
    refine a_opd ?_
    refine a_god ?_
    refine a_god ?_
    refine a_god ?_
    refine a_god ?_
    refine a_god ?_
    refine a_god (hs := by (simp (disch := omega) only [push_cast, reduceCtorEq, show ((k : Int) + 1 - 1) = k from by omega] <;> rfl)) ?_
    refine a_god ?_
    refine a_god ?_
    refine a_god ?_
    refine a_god ?_
    refine a_god ?_
    refine a_god ?_
    refine a_god ?_
    refine a_opd ?_
    refine s_nil (r_true (by kernel_rfl) ?_)
    refine q_next ?_
    refine a_false ?_
    refine k_skip ?_
    refine q_block (q_next ?_)
    refine k_region rfl ?_
    refine a_op ?_
    refine a_op ?_
    refine s_nil (r_false ?_)
    refine q_loopF (k + 1 + 1) (a_le ?_) ?_ ?_
    ·refine le_same ?_ ?_ ?_ <;> simp [-List.map_set, -List.map_replicate, -List.reduceReplicate, -List.map_map, -List.map_drop, -List.map_take, num, bol, txt, w8, w16, w32, w64, lst, cls, rowO, boxO, List.take_of_length_le, Wr.cellsL_len, wA, Wr.k_mk, Wr.n_mk, Wr.s_mk, Wr.l_mk, Wr.cellsL, Wr.z_eq, rcT, wpT]
    ·exact ⟨by omega, hn⟩
    ·(first | omega | (simp only []; omega))
  ·(try simp only [Bool.and_eq_true, Bool.or_eq_true, Bool.or_eq_false_iff, Bool.not_eq_true', Bool.not_eq_false', dec_t, dec_f, Bool.and_eq_false_imp, beq_iff_eq, beq_eq_false_iff_ne, ne_eq] at hc0)
   refine k_exit ?_
   refine q_seq_exit (q_loopF_exit (q_block_exit (q_next ?_)))
   refine k_seq ?_
   refine k_region rfl ?_
   have hm : mwB l = true := mwB_yes (fun j hj => hI j (by omega))
   refine a_op ?_
   refine s_nil (r_false ?_)
   refine q_next ?_
   refine k_ret ?_
   refine ⟨.inr rfl, a_ret [] (by rw [results39]) ?_ ?_ ?_⟩ <;> simp [-List.map_set, -List.map_replicate, -List.reduceReplicate, -List.map_map, -List.map_drop, -List.map_take, num, bol, txt, w8, w16, w32, w64, lst, cls, rowO, boxO, List.take_of_length_le, Wr.cellsL_len, wA, Wr.k_mk, Wr.n_mk, Wr.s_mk, Wr.l_mk, Wr.cellsL, Wr.z_eq, rcT, wpT, hm]

theorem rmay_good (Γ : Gl) (r : Rc) (hl : r.wraps.length ≤ 9223372036854775807) : Go.Ot.Good Γ prog 23 [.agg [.t (num r.seq), .t (txt r.prev), .t (num r.kind), .t (num r.dev), .t (.sl r.wraps.length (r.wraps.flatMap wpT)), .t (txt r.tag)]] [] (.t (bol (rcB r))) [] [] := by
 refine a_body F.mix func23 (by rfl) ntmps23 ?_
 refine k_seq ?_
 refine k_region rfl ?_
 refine a_op ?_
 refine a_op ?_
 refine s_nil (r_false ?_)
 refine q_next ?_
 refine k_meetF (fun sl L (b : Bool) => ⟨setAll (setBad sl [0, 2, 6, 7, 8, 9, 10, 11, 12, 13, 14, 15, 16, 17, 18, 19]) [(3, .t (bol b))], Go.Ot.look (L)⟩) (fun b => b = decide (prevP r)) ?_ ?_
 ·skip
  refine k_region rfl ?_
  have h4 : r.prev.length = 32 ∨ (r.prev.length ≠ 32 ∧ r.seq ≠ 1) ∨ (r.prev.length ≠ 32 ∧ r.seq = 1 ∧ r.prev = []) ∨ (r.prev.length ≠ 32 ∧ r.seq = 1 ∧ r.prev ≠ []) := by
   rcases Classical.em (r.prev = []) with h | h <;> simp only [h, not_true, not_false_eq_true, ne_eq, and_true, and_false, or_false] <;> omega
  rcases h4 with h | ⟨h, h1⟩ | ⟨h, h1, h2⟩ | ⟨h, h1, h2⟩
  ·skip
   iterate 5 refine a_op ?_
   refine a_no ?_
   refine a_no ?_
   refine a_no ?_
   refine a_no ?_
   refine a_no ?_
   refine a_no ?_
   refine a_no ?_
   refine a_no ?_
   refine a_op ?_
   refine a_op ?_
   refine s_nil (r_false ?_)
   refine q_meetF (true) (a_le ?_) ?_
   ·refine le_same ?_ ?_ ?_ <;> simp [-List.map_set, -List.map_replicate, -List.reduceReplicate, -List.map_map, -List.map_drop, -List.map_take, num, bol, txt, w8, w16, w32, w64, lst, cls, rowO, boxO, List.take_of_length_le, Wr.cellsL_len, wA, Wr.k_mk, Wr.n_mk, Wr.s_mk, Wr.l_mk, Wr.cellsL, Wr.z_eq, rcT, wpT]
   ·exact (decide_eq_true (show prevP r from by first | exact .inl h | exact .inr ⟨h1, h2⟩)).symm
  ·skip
   iterate 5 refine a_op ?_
   refine a_go ?_
   refine a_go ?_
   refine a_go ?_
   refine a_go ?_
   refine a_no ?_
   refine a_no ?_
   refine a_no ?_
   refine a_go ?_
   refine a_op ?_
   refine a_op ?_
   refine s_nil (r_false ?_)
   refine q_meetF (false) (a_le ?_) ?_
   ·refine le_same ?_ ?_ ?_ <;> simp [-List.map_set, -List.map_replicate, -List.reduceReplicate, -List.map_map, -List.map_drop, -List.map_take, num, bol, txt, w8, w16, w32, w64, lst, cls, rowO, boxO, List.take_of_length_le, Wr.cellsL_len, wA, Wr.k_mk, Wr.n_mk, Wr.s_mk, Wr.l_mk, Wr.cellsL, Wr.z_eq, rcT, wpT]
   ·exact (decide_eq_false (show ¬ prevP r from by rintro (hh | ⟨hh, hh2⟩) <;> first | omega | exact h2 hh2)).symm
  ·skip
   iterate 5 refine a_op ?_
   refine a_go ?_
   refine a_go ?_
   refine a_go ?_
   refine a_go ?_
   refine a_go ?_
   refine a_go ?_
   refine a_go (hs := by (simp (disch := omega) only [push_cast, reduceCtorEq, h2, beq_self_eq_true] <;> rfl)) ?_
   refine a_go ?_
   refine a_op ?_
   refine a_op ?_
   refine s_nil (r_false ?_)
   refine q_meetF (true) (a_le ?_) ?_
   ·refine le_same ?_ ?_ ?_ <;> simp [-List.map_set, -List.map_replicate, -List.reduceReplicate, -List.map_map, -List.map_drop, -List.map_take, num, bol, txt, w8, w16, w32, w64, lst, cls, rowO, boxO, List.take_of_length_le, Wr.cellsL_len, wA, Wr.k_mk, Wr.n_mk, Wr.s_mk, Wr.l_mk, Wr.cellsL, Wr.z_eq, rcT, wpT]
   ·exact (decide_eq_true (show prevP r from by first | exact .inl h | exact .inr ⟨h1, h2⟩)).symm
  ·skip
   iterate 5 refine a_op ?_
   refine a_go ?_
   refine a_go ?_
   refine a_go ?_
   refine a_go ?_
   refine a_go ?_
   refine a_go ?_
   refine a_go (hs := by (simp (disch := omega) only [push_cast, reduceCtorEq, beq_nil_ne h2] <;> rfl)) ?_
   refine a_go ?_
   refine a_op ?_
   refine a_op ?_
   refine s_nil (r_false ?_)
   refine q_meetF (false) (a_le ?_) ?_
   ·refine le_same ?_ ?_ ?_ <;> simp [-List.map_set, -List.map_replicate, -List.reduceReplicate, -List.map_map, -List.map_drop, -List.map_take, num, bol, txt, w8, w16, w32, w64, lst, cls, rowO, boxO, List.take_of_length_le, Wr.cellsL_len, wA, Wr.k_mk, Wr.n_mk, Wr.s_mk, Wr.l_mk, Wr.cellsL, Wr.z_eq, rcT, wpT]
   ·exact (decide_eq_false (show ¬ prevP r from by rintro (hh | ⟨hh, hh2⟩) <;> first | omega | exact h2 hh2)).symm
 ·intro b1 hb1
  refine a_st ?_
  refine k_meetF (fun sl L (b : Bool) => ⟨setAll (setBad sl [0, 2, 6, 7, 8, 9, 10, 11, 12, 13, 14, 15, 16, 17, 18, 19, 20, 21, 22, 23, 24, 25, 26, 27]) [(4, .t (bol b))], Go.Ot.look (L)⟩) (fun b => b = decide (kindP r)) ?_ ?_
  ·skip
   refine k_region rfl ?_
   rcases (show r.kind = 1 ∨ r.kind = 2 ∨ (r.kind ≠ 1 ∧ r.kind ≠ 2) by omega) with h | h | ⟨h, h1⟩
   ·skip
    iterate 4 refine a_op ?_
    refine a_no ?_
    refine a_no ?_
    refine a_no ?_
    refine a_op ?_
    refine a_op ?_
    refine s_nil (r_false ?_)
    refine q_meetF (true) (a_le ?_) ?_
    ·refine le_same ?_ ?_ ?_ <;> simp [-List.map_set, -List.map_replicate, -List.reduceReplicate, -List.map_map, -List.map_drop, -List.map_take, num, bol, txt, w8, w16, w32, w64, lst, cls, rowO, boxO, List.take_of_length_le, Wr.cellsL_len, wA, Wr.k_mk, Wr.n_mk, Wr.s_mk, Wr.l_mk, Wr.cellsL, Wr.z_eq, rcT, wpT]
    ·exact (decide_eq_true (show kindP r from by first | exact .inl h | exact .inr h)).symm
   ·skip
    iterate 4 refine a_op ?_
    refine a_go ?_
    refine a_go ?_
    refine a_go ?_
    refine a_op ?_
    refine a_op ?_
    refine s_nil (r_false ?_)
    refine q_meetF (true) (a_le ?_) ?_
    ·refine le_same ?_ ?_ ?_ <;> simp [-List.map_set, -List.map_replicate, -List.reduceReplicate, -List.map_map, -List.map_drop, -List.map_take, num, bol, txt, w8, w16, w32, w64, lst, cls, rowO, boxO, List.take_of_length_le, Wr.cellsL_len, wA, Wr.k_mk, Wr.n_mk, Wr.s_mk, Wr.l_mk, Wr.cellsL, Wr.z_eq, rcT, wpT]
    ·exact (decide_eq_true (show kindP r from by first | exact .inl h | exact .inr h)).symm
   ·skip
    iterate 4 refine a_op ?_
    refine a_go ?_
    refine a_go ?_
    refine a_go ?_
    refine a_op ?_
    refine a_op ?_
    refine s_nil (r_false ?_)
    refine q_meetF (false) (a_le ?_) ?_
    ·refine le_same ?_ ?_ ?_ <;> simp [-List.map_set, -List.map_replicate, -List.reduceReplicate, -List.map_map, -List.map_drop, -List.map_take, num, bol, txt, w8, w16, w32, w64, lst, cls, rowO, boxO, List.take_of_length_le, Wr.cellsL_len, wA, Wr.k_mk, Wr.n_mk, Wr.s_mk, Wr.l_mk, Wr.cellsL, Wr.z_eq, rcT, wpT]
    ·exact (decide_eq_false (show ¬ kindP r from by rintro (hh | hh) <;> omega)).symm
  ·intro b2 hb2
   refine a_st ?_
   refine k_meetF (fun sl L (b : Bool) => ⟨setAll (setBad sl [0, 2, 6, 7, 8, 9, 10, 11, 12, 13, 14, 15, 16, 17, 18, 19, 20, 21, 22, 23, 24, 25, 26, 27, 28, 29, 30, 31, 32, 33, 34, 35, 36]) [(5, .t (bol b))], Go.Ot.look (L)⟩) (fun b => b = decide (tagP r)) ?_ ?_
   ·skip
    refine k_region rfl ?_
    have h4 : r.tag = [] ∨ (r.tag.length = 16 ∧ r.tag ≠ []) ∨ (r.tag.length ≠ 16 ∧ r.tag ≠ []) := by
     rcases Classical.em (r.tag = []) with h | h <;> simp only [h, not_true, not_false_eq_true, ne_eq, and_true, and_false, or_false, true_or, false_or] <;> omega
    rcases h4 with h | ⟨h, h2⟩ | ⟨h, h2⟩
    ·skip
     refine a_op ?_
     refine a_op ?_
     refine a_op (hs := by (simp (disch := omega) only [push_cast, reduceCtorEq, h, beq_self_eq_true] <;> rfl)) ?_
     refine a_op ?_
     refine a_no ?_
     refine a_no ?_
     refine a_no ?_
     refine a_no ?_
     refine a_op ?_
     refine a_op ?_
     refine s_nil (r_false ?_)
     refine q_meetF (true) (a_le ?_) ?_
     ·refine le_same ?_ ?_ ?_ <;> simp [-List.map_set, -List.map_replicate, -List.reduceReplicate, -List.map_map, -List.map_drop, -List.map_take, num, bol, txt, w8, w16, w32, w64, lst, cls, rowO, boxO, List.take_of_length_le, Wr.cellsL_len, wA, Wr.k_mk, Wr.n_mk, Wr.s_mk, Wr.l_mk, Wr.cellsL, Wr.z_eq, rcT, wpT]
     ·exact (decide_eq_true (show tagP r from by first | exact .inl h | exact .inr h)).symm
    ·skip
     refine a_op ?_
     refine a_op ?_
     refine a_op (hs := by (simp (disch := omega) only [push_cast, reduceCtorEq, beq_nil_ne h2] <;> rfl)) ?_
     refine a_op ?_
     refine a_go ?_
     refine a_go ?_
     refine a_go ?_
     refine a_go ?_
     refine a_op ?_
     refine a_op ?_
     refine s_nil (r_false ?_)
     refine q_meetF (true) (a_le ?_) ?_
     ·refine le_same ?_ ?_ ?_ <;> simp [-List.map_set, -List.map_replicate, -List.reduceReplicate, -List.map_map, -List.map_drop, -List.map_take, num, bol, txt, w8, w16, w32, w64, lst, cls, rowO, boxO, List.take_of_length_le, Wr.cellsL_len, wA, Wr.k_mk, Wr.n_mk, Wr.s_mk, Wr.l_mk, Wr.cellsL, Wr.z_eq, rcT, wpT]
     ·exact (decide_eq_true (show tagP r from by first | exact .inl h | exact .inr h)).symm
    ·skip
     refine a_op ?_
     refine a_op ?_
     refine a_op (hs := by (simp (disch := omega) only [push_cast, reduceCtorEq, beq_nil_ne h2] <;> rfl)) ?_
     refine a_op ?_
     refine a_go ?_
     refine a_go ?_
     refine a_go ?_
     refine a_go ?_
     refine a_op ?_
     refine a_op ?_
     refine s_nil (r_false ?_)
     refine q_meetF (false) (a_le ?_) ?_
     ·refine le_same ?_ ?_ ?_ <;> simp [-List.map_set, -List.map_replicate, -List.reduceReplicate, -List.map_map, -List.map_drop, -List.map_take, num, bol, txt, w8, w16, w32, w64, lst, cls, rowO, boxO, List.take_of_length_le, Wr.cellsL_len, wA, Wr.k_mk, Wr.n_mk, Wr.s_mk, Wr.l_mk, Wr.cellsL, Wr.z_eq, rcT, wpT]
     ·exact (decide_eq_false (show ¬ tagP r from by rintro (hh | hh) <;> first | omega | exact h2 hh)).symm
   ·intro b3 hb3
    refine a_st ?_
    refine k_seq ?_
    refine k_region rfl ?_
    have d1 : b1 = true ↔ prevP r := by rw [hb1]; exact decide_eq_true_iff
    have d2 : b2 = true ↔ kindP r := by rw [hb2]; exact decide_eq_true_iff
    have d3 : b3 = true ↔ tagP r := by rw [hb3]; exact decide_eq_true_iff
    clear hb1 hb2 hb3
    have h7 : (r.seq < 1) ∨ (1 ≤ r.seq ∧ 1048576 < r.seq) ∨ ((1 ≤ r.seq ∧ r.seq ≤ 1048576) ∧ b1 = false) ∨ ((1 ≤ r.seq ∧ r.seq ≤ 1048576) ∧ b1 = true ∧ b2 = false) ∨ ((1 ≤ r.seq ∧ r.seq ≤ 1048576) ∧ b1 = true ∧ b2 = true ∧ (r.dev < 0 ∨ 8 ≤ r.dev)) ∨ ((1 ≤ r.seq ∧ r.seq ≤ 1048576) ∧ b1 = true ∧ b2 = true ∧ (0 ≤ r.dev ∧ r.dev < 8) ∧ b3 = false) ∨ ((1 ≤ r.seq ∧ r.seq ≤ 1048576) ∧ b1 = true ∧ b2 = true ∧ (0 ≤ r.dev ∧ r.dev < 8) ∧ b3 = true) := by
     cases b1 <;> cases b2 <;> cases b3 <;> simp <;> omega
    rcases h7 with q | ⟨q, q2⟩ | ⟨⟨q1, q2⟩, rfl⟩ | ⟨⟨q1, q2⟩, rfl, rfl⟩ | ⟨⟨q1, q2⟩, rfl, rfl, q3⟩ | ⟨⟨q1, q2⟩, rfl, rfl, ⟨q3, q4⟩, rfl⟩ | ⟨⟨q1, q2⟩, rfl, rfl, ⟨q3, q4⟩, rfl⟩
    ·have hm : rcB r = false := rcB_f (fun h => by
      obtain ⟨g1, g2, g3, g4, ⟨g5, g6⟩, g7, g8⟩ := h
      omega)
     iterate 4 refine a_op ?_
     refine a_no ?_
     refine a_no ?_
     refine a_no ?_
     refine a_op ?_
     refine a_op ?_
     refine a_no ?_
     refine a_op ?_
     refine a_op ?_
     refine a_no ?_
     refine a_op ?_
     refine a_op ?_
     refine a_no ?_
     refine a_no ?_
     refine a_no ?_
     refine a_op ?_
     refine a_op ?_
     refine a_no ?_
     refine a_op ?_
     refine a_op ?_
     refine a_no ?_
     refine a_no ?_
     refine a_no ?_
     refine a_op ?_
     refine a_op ?_
     refine s_nil (r_false ?_)
     refine q_next ?_
     refine k_ret ?_
     refine ⟨.inr rfl, a_ret [] (by rw [results23]) ?_ ?_ ?_⟩ <;> simp [-List.map_set, -List.map_replicate, -List.reduceReplicate, -List.map_map, -List.map_drop, -List.map_take, num, bol, txt, w8, w16, w32, w64, lst, cls, rowO, boxO, List.take_of_length_le, Wr.cellsL_len, wA, Wr.k_mk, Wr.n_mk, Wr.s_mk, Wr.l_mk, Wr.cellsL, Wr.z_eq, rcT, wpT, hm]
    ·have hm : rcB r = false := rcB_f (fun h => by
      obtain ⟨g1, g2, g3, g4, ⟨g5, g6⟩, g7, g8⟩ := h
      omega)
     iterate 4 refine a_op ?_
     refine a_go ?_
     refine a_go ?_
     refine a_go ?_
     refine a_op ?_
     refine a_op ?_
     refine a_no ?_
     refine a_op ?_
     refine a_op ?_
     refine a_no ?_
     refine a_op ?_
     refine a_op ?_
     refine a_no ?_
     refine a_no ?_
     refine a_no ?_
     refine a_op ?_
     refine a_op ?_
     refine a_no ?_
     refine a_op ?_
     refine a_op ?_
     refine a_no ?_
     refine a_no ?_
     refine a_no ?_
     refine a_op ?_
     refine a_op ?_
     refine s_nil (r_false ?_)
     refine q_next ?_
     refine k_ret ?_
     refine ⟨.inr rfl, a_ret [] (by rw [results23]) ?_ ?_ ?_⟩ <;> simp [-List.map_set, -List.map_replicate, -List.reduceReplicate, -List.map_map, -List.map_drop, -List.map_take, num, bol, txt, w8, w16, w32, w64, lst, cls, rowO, boxO, List.take_of_length_le, Wr.cellsL_len, wA, Wr.k_mk, Wr.n_mk, Wr.s_mk, Wr.l_mk, Wr.cellsL, Wr.z_eq, rcT, wpT, hm]
    ·have hm : rcB r = false := rcB_f (fun h => by
      obtain ⟨g1, g2, g3, g4, ⟨g5, g6⟩, g7, g8⟩ := h
      have := d1.2 g3; cases this)
     iterate 4 refine a_op ?_
     refine a_go ?_
     refine a_go ?_
     refine a_go ?_
     refine a_op ?_
     refine a_op ?_
     refine a_go ?_
     refine a_op ?_
     refine a_op ?_
     refine a_no ?_
     refine a_op ?_
     refine a_op ?_
     refine a_no ?_
     refine a_no ?_
     refine a_no ?_
     refine a_op ?_
     refine a_op ?_
     refine a_no ?_
     refine a_op ?_
     refine a_op ?_
     refine a_no ?_
     refine a_no ?_
     refine a_no ?_
     refine a_op ?_
     refine a_op ?_
     refine s_nil (r_false ?_)
     refine q_next ?_
     refine k_ret ?_
     refine ⟨.inr rfl, a_ret [] (by rw [results23]) ?_ ?_ ?_⟩ <;> simp [-List.map_set, -List.map_replicate, -List.reduceReplicate, -List.map_map, -List.map_drop, -List.map_take, num, bol, txt, w8, w16, w32, w64, lst, cls, rowO, boxO, List.take_of_length_le, Wr.cellsL_len, wA, Wr.k_mk, Wr.n_mk, Wr.s_mk, Wr.l_mk, Wr.cellsL, Wr.z_eq, rcT, wpT, hm]
    ·have hm : rcB r = false := rcB_f (fun h => by
      obtain ⟨g1, g2, g3, g4, ⟨g5, g6⟩, g7, g8⟩ := h
      have := d2.2 g4; cases this)
     iterate 4 refine a_op ?_
     refine a_go ?_
     refine a_go ?_
     refine a_go ?_
     refine a_op ?_
     refine a_op ?_
     refine a_go ?_
     refine a_op ?_
     refine a_op ?_
     refine a_go ?_
     refine a_op ?_
     refine a_op ?_
     refine a_no ?_
     refine a_no ?_
     refine a_no ?_
     refine a_op ?_
     refine a_op ?_
     refine a_no ?_
     refine a_op ?_
     refine a_op ?_
     refine a_no ?_
     refine a_no ?_
     refine a_no ?_
     refine a_op ?_
     refine a_op ?_
     refine s_nil (r_false ?_)
     refine q_next ?_
     refine k_ret ?_
     refine ⟨.inr rfl, a_ret [] (by rw [results23]) ?_ ?_ ?_⟩ <;> simp [-List.map_set, -List.map_replicate, -List.reduceReplicate, -List.map_map, -List.map_drop, -List.map_take, num, bol, txt, w8, w16, w32, w64, lst, cls, rowO, boxO, List.take_of_length_le, Wr.cellsL_len, wA, Wr.k_mk, Wr.n_mk, Wr.s_mk, Wr.l_mk, Wr.cellsL, Wr.z_eq, rcT, wpT, hm]
    ·have hm : rcB r = false := rcB_f (fun h => by
      obtain ⟨g1, g2, g3, g4, ⟨g5, g6⟩, g7, g8⟩ := h
      omega)
     iterate 4 refine a_op ?_
     refine a_go ?_
     refine a_go ?_
     refine a_go ?_
     refine a_op ?_
     refine a_op ?_
     refine a_go ?_
     refine a_op ?_
     refine a_op ?_
     refine a_go ?_
     refine a_op ?_
     refine a_op ?_
     refine a_go ?_
     refine a_go ?_
     refine a_callgo [] false (dev_no Γ r.dev q3) ?_
     refine a_op ?_
     refine a_op ?_
     refine a_no ?_
     refine a_op ?_
     refine a_op ?_
     refine a_no ?_
     refine a_no ?_
     refine a_no ?_
     refine a_op ?_
     refine a_op ?_
     refine s_nil (r_false ?_)
     refine q_next ?_
     refine k_ret ?_
     refine ⟨.inr rfl, a_ret [] (by rw [results23]) ?_ ?_ ?_⟩ <;> simp [-List.map_set, -List.map_replicate, -List.reduceReplicate, -List.map_map, -List.map_drop, -List.map_take, num, bol, txt, w8, w16, w32, w64, lst, cls, rowO, boxO, List.take_of_length_le, Wr.cellsL_len, wA, Wr.k_mk, Wr.n_mk, Wr.s_mk, Wr.l_mk, Wr.cellsL, Wr.z_eq, rcT, wpT, hm]
    ·have hm : rcB r = false := rcB_f (fun h => by
      obtain ⟨g1, g2, g3, g4, ⟨g5, g6⟩, g7, g8⟩ := h
      have := d3.2 g7; cases this)
     iterate 4 refine a_op ?_
     refine a_go ?_
     refine a_go ?_
     refine a_go ?_
     refine a_op ?_
     refine a_op ?_
     refine a_go ?_
     refine a_op ?_
     refine a_op ?_
     refine a_go ?_
     refine a_op ?_
     refine a_op ?_
     refine a_go ?_
     refine a_go ?_
     refine a_callgo [] false (dev_ok Γ r.dev q3 q4) ?_
     refine a_op ?_
     refine a_op ?_
     refine a_go ?_
     refine a_op ?_
     refine a_op ?_
     refine a_no ?_
     refine a_no ?_
     refine a_no ?_
     refine a_op ?_
     refine a_op ?_
     refine s_nil (r_false ?_)
     refine q_next ?_
     refine k_ret ?_
     refine ⟨.inr rfl, a_ret [] (by rw [results23]) ?_ ?_ ?_⟩ <;> simp [-List.map_set, -List.map_replicate, -List.reduceReplicate, -List.map_map, -List.map_drop, -List.map_take, num, bol, txt, w8, w16, w32, w64, lst, cls, rowO, boxO, List.take_of_length_le, Wr.cellsL_len, wA, Wr.k_mk, Wr.n_mk, Wr.s_mk, Wr.l_mk, Wr.cellsL, Wr.z_eq, rcT, wpT, hm]
    ·have hm : rcB r = mwB r.wraps := by
      rcases e : mwB r.wraps with _ | _
      ·exact rcB_f (fun h => by have := h.2.2.2.2.2.2; rw [e] at this; cases this)
      ·exact rcB_t ⟨q1, q2, d1.1 rfl, d2.1 rfl, ⟨q3, q4⟩, d3.1 rfl, e⟩
     iterate 4 refine a_op ?_
     refine a_go ?_
     refine a_go ?_
     refine a_go ?_
     refine a_op ?_
     refine a_op ?_
     refine a_go ?_
     refine a_op ?_
     refine a_op ?_
     refine a_go ?_
     refine a_op ?_
     refine a_op ?_
     refine a_go ?_
     refine a_go ?_
     refine a_callgo [] false (dev_ok Γ r.dev q3 q4) ?_
     refine a_op ?_
     refine a_op ?_
     refine a_go ?_
     refine a_op ?_
     refine a_op ?_
     refine a_go ?_
     refine a_go ?_
     refine a_callgo [] false (mw_good Γ r.wraps hl) ?_
     refine a_op ?_
     refine a_op ?_
     refine s_nil (r_false ?_)
     refine q_next ?_
     refine k_ret ?_
     refine ⟨.inr rfl, a_ret [] (by rw [results23]) ?_ ?_ ?_⟩ <;> simp [-List.map_set, -List.map_replicate, -List.reduceReplicate, -List.map_map, -List.map_drop, -List.map_take, num, bol, txt, w8, w16, w32, w64, lst, cls, rowO, boxO, List.take_of_length_le, Wr.cellsL_len, wA, Wr.k_mk, Wr.n_mk, Wr.s_mk, Wr.l_mk, Wr.cellsL, Wr.z_eq, rcT, wpT, hm]

end Go.Proofs.Tryz
