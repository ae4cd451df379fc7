/- Contracts of this program's functions. -/
import Derived.Test.YtppicdhlpdhoiaaDoorSSN8
set_option maxHeartbeats 4000000
set_option maxRecDepth 100000
set_option linter.unusedVariables false
set_option linter.unusedSimpArgs false
namespace Go.Proofs.Tryd
open Go Go.Ot
attribute [local irreducible] wpK wpS seqK blockK loopF regK meetK OpSpec Le
theorem sameruns_good (Γ : Gl) (l m : List Rn) (hl : l.length ≤ 9223372036854775807) (hm : m.length ≤ 9223372036854775807) : Go.Ot.Good Γ prog 25 [.t (.sl l.length (l.flatMap rnT)), .t (.sl m.length (m.flatMap rnT))] [] (.t (bol (decide (l = m)))) [] [] := by
 refine a_body F.mix func25 (by rfl) ntmps25 ?_
 refine k_seq ?_
 refine k_region rfl ?_
 refine a_op ?_
 refine s_nil (r_false ?_)
 refine q_next ?_
 refine k_seq ?_
 refine k_seq ?_
 refine k_region rfl ?_
 iterate 5 refine a_op ?_
 refine s_nil (r_false ?_)
 refine q_next ?_
 refine a_if (fun hc0 => ?_) (fun hc0 => ?_)
 ·(try simp only [Bool.and_eq_true, Bool.or_eq_true, Bool.or_eq_false_iff, Bool.not_eq_true', Bool.not_eq_false', dec_t, dec_f, Bool.and_eq_false_imp, beq_iff_eq, beq_eq_false_iff_ne, ne_eq] at hc0)
  have hq : decide (l = m) = false := decide_eq_false (fun e => by subst e; simp at hc0)
  refine k_seq ?_
  refine k_region rfl ?_
  refine a_op ?_
  refine s_nil (r_false ?_)
  refine q_next ?_
  refine k_ret ?_
  refine q_seq_ret ?_
  refine ⟨.inr rfl, a_ret [] (by rw [results25]) ?_ ?_ ?_⟩ <;> simp [-List.map_set, -List.map_replicate, -List.reduceReplicate, -List.map_map, -List.map_drop, -List.map_take, num, bol, txt, w8, w16, w32, w64, lst, cls, rowO, boxO, List.take_of_length_le, Wr.cellsL_len, wA, Wr.k_mk, Wr.n_mk, Wr.s_mk, Wr.l_mk, Wr.cellsL, Wr.z_eq, rnT, ftT, hq]
 ·(try simp only [Bool.and_eq_true, Bool.or_eq_true, Bool.or_eq_false_iff, Bool.not_eq_true', Bool.not_eq_false', dec_t, dec_f, Bool.and_eq_false_imp, beq_iff_eq, beq_eq_false_iff_ne, ne_eq] at hc0)
  have hlm : l.length = m.length := by omega
  refine k_skip ?_
  refine q_next ?_
  refine k_seq ?_
  refine k_seq ?_
  refine k_region rfl ?_
  refine a_op ?_
  refine s_nil (r_false ?_)
  refine q_next ?_
  refine k_block ?_
  refine k_loopF (fun sl L (i : Nat) => ⟨setAll (setBad sl [4, 6, 7, 8, 9, 10, 11, 12, 13, 14, 15, 16, 17, 18, 19, 20, 21, 22, 23, 24, 25]) [(5, .t (num i))], Go.Ot.look (L)⟩) (fun i => i ≤ l.length ∧ ∀ j, j < i → l.getD j default = m.getD j default) (fun i => l.length - i) (0) (a_le ?_) ?_ ?_
  ·refine le_same ?_ ?_ ?_ <;> simp [-List.map_set, -List.map_replicate, -List.reduceReplicate, -List.map_map, -List.map_drop, -List.map_take, num, bol, txt, w8, w16, w32, w64, lst, cls, rowO, boxO, List.take_of_length_le, Wr.cellsL_len, wA, Wr.k_mk, Wr.n_mk, Wr.s_mk, Wr.l_mk, Wr.cellsL, Wr.z_eq, rnT, ftT]
  ·exact ⟨Nat.zero_le _, fun j hj => by omega⟩
  ·rintro i ⟨hi, hI⟩
   refine a_st ?_
   refine k_seq ?_
   refine k_seq ?_
   refine k_region rfl ?_
   iterate 4 refine a_op ?_
   refine s_nil (r_false ?_)
   refine q_next ?_
   refine a_if (fun hc1 => ?_) (fun hc1 => ?_)
   ·(try simp only [Bool.and_eq_true, Bool.or_eq_true, Bool.or_eq_false_iff, Bool.not_eq_true', Bool.not_eq_false', dec_t, dec_f, Bool.and_eq_false_imp, beq_iff_eq, beq_eq_false_iff_ne, ne_eq] at hc1)
    refine k_skip ?_
    refine q_next ?_
    refine k_seq ?_
    refine k_block ?_
    refine k_seq ?_
    refine k_region rfl ?_
    have hd0 : (∃ bb, bb = decide (l.getD i default = m.getD i default)) := ⟨_, rfl⟩
    obtain ⟨bb, hb⟩ := hd0
    rcases bb with _ | _
    ·have hd := hb.symm
     have hq : decide (l = m) = false := decide_eq_false (fun e => by subst e; simp at hd)
     iterate 4 refine a_opd ?_
     obtain ⟨x, hx⟩ : ∃ x, l.getD i default = x := ⟨_, rfl⟩
     simp only [hx]
     iterate 4 refine a_opd ?_
     obtain ⟨y, hy⟩ : ∃ y, m.getD i default = y := ⟨_, rfl⟩
     simp only [hy]
     rw [hx, hy] at hd
     refine a_eqsd _ ?_ (ne_rn (q := x) (r := y) (b := true) (by rw [hd]; rfl))
     refine s_nil (r_true (by kernel_rfl) ?_)
     refine q_next ?_
     refine a_true ?_
     refine k_seq ?_
     refine k_region rfl ?_
     refine a_op ?_
     refine s_nil (r_false ?_)
     refine q_next ?_
     refine k_ret ?_
     refine q_block_ret (q_seq_ret (q_loopF_ret (q_block_ret (q_seq_ret ?_))))
     refine ⟨.inr rfl, a_ret [] (by rw [results25]) ?_ ?_ ?_⟩ <;> simp [-List.map_set, -List.map_replicate, -List.reduceReplicate, -List.map_map, -List.map_drop, -List.map_take, num, bol, txt, w8, w16, w32, w64, lst, cls, rowO, boxO, List.take_of_length_le, Wr.cellsL_len, wA, Wr.k_mk, Wr.n_mk, Wr.s_mk, Wr.l_mk, Wr.cellsL, Wr.z_eq, rnT, ftT, hq]
    ·have hd := hb.symm
     iterate 4 refine a_opd ?_
     obtain ⟨x, hx⟩ : ∃ x, l.getD i default = x := ⟨_, rfl⟩
     simp only [hx]
     iterate 4 refine a_opd ?_
     obtain ⟨y, hy⟩ : ∃ y, m.getD i default = y := ⟨_, rfl⟩
     simp only [hy]
     rw [hx, hy] at hd
     refine a_eqsd _ ?_ (ne_rn (q := x) (r := y) (b := false) (by rw [hd]; rfl))
     refine s_nil (r_true (by kernel_rfl) ?_)
     refine q_next ?_
     refine a_false ?_
     refine k_skip ?_
     refine q_block (q_next ?_)
     refine k_region rfl ?_
     iterate 3 refine a_op ?_
     refine s_nil (r_false ?_)
     simp only [decide_eq_true_eq] at hd
     have hw : l.getD i default = m.getD i default := by rw [hx, hy, hd]
     refine q_loopF (i + 1) (a_le ?_) ?_ ?_
     ·refine le_same ?_ ?_ ?_ <;> simp [-List.map_set, -List.map_replicate, -List.reduceReplicate, -List.map_map, -List.map_drop, -List.map_take, num, bol, txt, w8, w16, w32, w64, lst, cls, rowO, boxO, List.take_of_length_le, Wr.cellsL_len, wA, Wr.k_mk, Wr.n_mk, Wr.s_mk, Wr.l_mk, Wr.cellsL, Wr.z_eq, rnT, ftT]
     ·exact ⟨by omega, fun j hj => by by_cases e : j = i; (subst e; exact hw); exact hI j (by omega)⟩
     ·(first | omega | (simp only []; omega))
   ·(try simp only [Bool.and_eq_true, Bool.or_eq_true, Bool.or_eq_false_iff, Bool.not_eq_true', Bool.not_eq_false', dec_t, dec_f, Bool.and_eq_false_imp, beq_iff_eq, beq_eq_false_iff_ne, ne_eq] at hc1)
    refine k_exit ?_
    refine q_seq_exit (q_loopF_exit (q_block_exit (q_next ?_)))
    refine k_seq ?_
    refine k_region rfl ?_
    have hq : decide (l = m) = true := decide_eq_true (list_ext_getD hlm (fun j hj => hI j (by omega)))
    refine a_op ?_
    refine s_nil (r_false ?_)
    refine q_next ?_
    refine k_ret ?_
    refine ⟨.inr rfl, a_ret [] (by rw [results25]) ?_ ?_ ?_⟩ <;> simp [-List.map_set, -List.map_replicate, -List.reduceReplicate, -List.map_map, -List.map_drop, -List.map_take, num, bol, txt, w8, w16, w32, w64, lst, cls, rowO, boxO, List.take_of_length_le, Wr.cellsL_len, wA, Wr.k_mk, Wr.n_mk, Wr.s_mk, Wr.l_mk, Wr.cellsL, Wr.z_eq, rnT, ftT, hq]

theorem same_good (Γ : Gl) (a b : Sa) (ha : a.seen.length ≤ 9223372036854775807) (hb1 : b.seen.length ≤ 9223372036854775807) (ha2 : a.fs.length ≤ 9223372036854775807) (hb2 : b.fs.length ≤ 9223372036854775807) : Go.Ot.Good Γ prog 12 [.agg [.t (.sl a.seen.length (a.seen.flatMap rnT)), .t (.sl a.fs.length (a.fs.flatMap ftT))], .agg [.t (.sl b.seen.length (b.seen.flatMap rnT)), .t (.sl b.fs.length (b.fs.flatMap ftT))]] [] (.t (bol (decide (a = b)))) [] [] := by
 refine a_body F.mix func12 (by rfl) ntmps12 ?_
 refine k_seq ?_
 refine k_region rfl ?_
 iterate 3 refine a_op ?_
 refine s_nil (r_false ?_)
 refine q_next ?_
 refine k_seq ?_
 refine k_seq ?_
 refine k_region rfl ?_
 rcases (show a.seen ≠ b.seen ∨ (a.seen = b.seen ∧ a.fs.length ≠ b.fs.length) ∨ (a.seen = b.seen ∧ a.fs.length = b.fs.length) by
  by_cases h : a.seen = b.seen
  ·simp only [h, ne_eq, not_true_eq_false, true_and, false_or]; omega
  ·exact .inl h) with g | ⟨g, g2⟩ | ⟨g, g2⟩
 ·have hq : decide (a = b) = false := decide_eq_false (fun e => g (by rw [e]))
  iterate 4 refine a_op ?_
  refine a_call [] false ((by have h := sameruns_good Γ a.seen b.seen ha hb1; rw [decide_eq_false g] at h; exact h)) ?_
  refine a_op ?_
  refine a_op ?_
  refine a_no ?_
  refine a_no ?_
  refine a_no ?_
  refine a_no ?_
  refine a_no ?_
  refine a_no ?_
  refine a_no ?_
  refine a_op ?_
  refine s_nil (r_false ?_)
  refine q_next ?_
  refine a_true ?_
  refine k_seq ?_
  refine k_region rfl ?_
  refine a_op ?_
  refine s_nil (r_false ?_)
  refine q_next ?_
  refine k_ret ?_
  refine q_seq_ret ?_
  refine ⟨.inr rfl, a_ret [] (by rw [results12]) ?_ ?_ ?_⟩ <;> simp [-List.map_set, -List.map_replicate, -List.reduceReplicate, -List.map_map, -List.map_drop, -List.map_take, num, bol, txt, w8, w16, w32, w64, lst, cls, rowO, boxO, List.take_of_length_le, Wr.cellsL_len, wA, Wr.k_mk, Wr.n_mk, Wr.s_mk, Wr.l_mk, Wr.cellsL, Wr.z_eq, rnT, ftT, hq]
 ·have hq : decide (a = b) = false := decide_eq_false (fun e => g2 (by rw [e]))
  iterate 4 refine a_op ?_
  refine a_call [] false ((by have h := sameruns_good Γ a.seen b.seen ha hb1; rw [decide_eq_true g] at h; exact h)) ?_
  refine a_op ?_
  refine a_op ?_
  refine a_go ?_
  refine a_go ?_
  refine a_go ?_
  refine a_go ?_
  refine a_go ?_
  refine a_go ?_
  refine a_go ?_
  refine a_op ?_
  refine s_nil (r_false ?_)
  refine q_next ?_
  refine a_true ?_
  refine k_seq ?_
  refine k_region rfl ?_
  refine a_op ?_
  refine s_nil (r_false ?_)
  refine q_next ?_
  refine k_ret ?_
  refine q_seq_ret ?_
  refine ⟨.inr rfl, a_ret [] (by rw [results12]) ?_ ?_ ?_⟩ <;> simp [-List.map_set, -List.map_replicate, -List.reduceReplicate, -List.map_map, -List.map_drop, -List.map_take, num, bol, txt, w8, w16, w32, w64, lst, cls, rowO, boxO, List.take_of_length_le, Wr.cellsL_len, wA, Wr.k_mk, Wr.n_mk, Wr.s_mk, Wr.l_mk, Wr.cellsL, Wr.z_eq, rnT, ftT, hq]
 ·skip
  iterate 4 refine a_op ?_
  refine a_call [] false ((by have h := sameruns_good Γ a.seen b.seen ha hb1; rw [decide_eq_true g] at h; exact h)) ?_
  refine a_op ?_
  refine a_op ?_
  refine a_go ?_
  refine a_go ?_
  refine a_go ?_
  refine a_go ?_
  refine a_go ?_
  refine a_go ?_
  refine a_go ?_
  refine a_op ?_
  refine s_nil (r_false ?_)
  refine q_next ?_
  refine a_false ?_
  refine k_skip ?_
  refine q_next ?_
  refine k_seq ?_
  refine k_seq ?_
  refine k_region rfl ?_
  refine a_op ?_
  refine s_nil (r_false ?_)
  refine q_next ?_
  refine k_block ?_
  refine k_loopF (fun sl L (i : Nat) => ⟨setAll (setBad sl [0, 1, 4, 6, 7, 8, 9, 10, 11, 12, 13, 14, 15, 16, 17, 18, 19, 20, 21, 22, 23, 24, 25, 26, 27, 28, 29, 30, 31, 32, 33, 34, 35, 36, 37, 38]) [(5, .t (num i))], Go.Ot.look (L)⟩) (fun i => i ≤ a.fs.length ∧ ∀ j, j < i → a.fs.getD j default = b.fs.getD j default) (fun i => a.fs.length - i) (0) (a_le ?_) ?_ ?_
  ·refine le_of [(.r 0 0 0, .r 0 0 0), (.r 0 1 0, .r 0 1 0)] ?_ ?_ ?_ <;> simp [-List.map_set, -List.map_replicate, -List.reduceReplicate, -List.map_map, -List.map_drop, -List.map_take, num, bol, txt, w8, w16, w32, w64, lst, cls, rowO, boxO, List.take_of_length_le, Wr.cellsL_len, wA, Wr.k_mk, Wr.n_mk, Wr.s_mk, Wr.l_mk, Wr.cellsL, Wr.z_eq, rnT, ftT]
  ·exact ⟨Nat.zero_le _, fun j hj => by omega⟩
  ·rintro i ⟨hi, hI⟩
   refine a_st ?_
   refine k_seq ?_
   refine k_seq ?_
   refine k_region rfl ?_
   iterate 5 refine a_op ?_
   refine s_nil (r_false ?_)
   refine q_next ?_
   refine a_if (fun hc1 => ?_) (fun hc1 => ?_)
   ·(try simp only [Bool.and_eq_true, Bool.or_eq_true, Bool.or_eq_false_iff, Bool.not_eq_true', Bool.not_eq_false', dec_t, dec_f, Bool.and_eq_false_imp, beq_iff_eq, beq_eq_false_iff_ne, ne_eq] at hc1)
    refine k_skip ?_
    refine q_next ?_
    refine k_seq ?_
    refine k_block ?_
    refine k_seq ?_
    refine k_region rfl ?_
    have hd0 : (∃ bb, bb = decide (a.fs.getD i default = b.fs.getD i default)) := ⟨_, rfl⟩
    obtain ⟨bb, hb⟩ := hd0
    rcases bb with _ | _
    ·have hd := hb.symm
     have hq : decide (a = b) = false := decide_eq_false (fun e => by subst e; simp at hd)
     iterate 5 refine a_opd ?_
     obtain ⟨x, hx⟩ : ∃ x, a.fs.getD i default = x := ⟨_, rfl⟩
     simp only [hx]
     iterate 5 refine a_opd ?_
     obtain ⟨y, hy⟩ : ∃ y, b.fs.getD i default = y := ⟨_, rfl⟩
     simp only [hy]
     rw [hx, hy] at hd
     refine a_eqsd _ ?_ (ne_ft (q := x) (r := y) (b := true) (by rw [hd]; rfl))
     refine s_nil (r_true (by kernel_rfl) ?_)
     refine q_next ?_
     refine a_true ?_
     refine k_seq ?_
     refine k_region rfl ?_
     refine a_op ?_
     refine s_nil (r_false ?_)
     refine q_next ?_
     refine k_ret ?_
     refine q_block_ret (q_seq_ret (q_loopF_ret (q_block_ret (q_seq_ret ?_))))
     refine ⟨.inr rfl, a_ret [] (by rw [results12]) ?_ ?_ ?_⟩ <;> simp [-List.map_set, -List.map_replicate, -List.reduceReplicate, -List.map_map, -List.map_drop, -List.map_take, num, bol, txt, w8, w16, w32, w64, lst, cls, rowO, boxO, List.take_of_length_le, Wr.cellsL_len, wA, Wr.k_mk, Wr.n_mk, Wr.s_mk, Wr.l_mk, Wr.cellsL, Wr.z_eq, rnT, ftT, hq]
    ·have hd := hb.symm
     iterate 5 refine a_opd ?_
     obtain ⟨x, hx⟩ : ∃ x, a.fs.getD i default = x := ⟨_, rfl⟩
     simp only [hx]
     iterate 5 refine a_opd ?_
     obtain ⟨y, hy⟩ : ∃ y, b.fs.getD i default = y := ⟨_, rfl⟩
     simp only [hy]
     rw [hx, hy] at hd
     refine a_eqsd _ ?_ (ne_ft (q := x) (r := y) (b := false) (by rw [hd]; rfl))
     refine s_nil (r_true (by kernel_rfl) ?_)
     refine q_next ?_
     refine a_false ?_
     refine k_skip ?_
     refine q_block (q_next ?_)
     refine k_region rfl ?_
     iterate 3 refine a_op ?_
     refine s_nil (r_false ?_)
     simp only [decide_eq_true_eq] at hd
     have hw : a.fs.getD i default = b.fs.getD i default := by rw [hx, hy, hd]
     refine q_loopF (i + 1) (a_le ?_) ?_ ?_
     ·refine le_of [(.r 0 0 0, .r 0 0 0), (.r 0 1 0, .r 0 1 0)] ?_ ?_ ?_ <;> simp [-List.map_set, -List.map_replicate, -List.reduceReplicate, -List.map_map, -List.map_drop, -List.map_take, num, bol, txt, w8, w16, w32, w64, lst, cls, rowO, boxO, List.take_of_length_le, Wr.cellsL_len, wA, Wr.k_mk, Wr.n_mk, Wr.s_mk, Wr.l_mk, Wr.cellsL, Wr.z_eq, rnT, ftT]
     ·exact ⟨by omega, fun j hj => by by_cases e : j = i; (subst e; exact hw); exact hI j (by omega)⟩
     ·(first | omega | (simp only []; omega))
   ·(try simp only [Bool.and_eq_true, Bool.or_eq_true, Bool.or_eq_false_iff, Bool.not_eq_true', Bool.not_eq_false', dec_t, dec_f, Bool.and_eq_false_imp, beq_iff_eq, beq_eq_false_iff_ne, ne_eq] at hc1)
    refine k_exit ?_
    refine q_seq_exit (q_loopF_exit (q_block_exit (q_next ?_)))
    refine k_seq ?_
    refine k_region rfl ?_
    have hq : decide (a = b) = true := decide_eq_true (sa_eq.2 ⟨g, list_ext_getD g2 (fun j hj => hI j (by omega))⟩)
    refine a_op ?_
    refine s_nil (r_false ?_)
    refine q_next ?_
    refine k_ret ?_
    refine ⟨.inr rfl, a_ret [] (by rw [results12]) ?_ ?_ ?_⟩ <;> simp [-List.map_set, -List.map_replicate, -List.reduceReplicate, -List.map_map, -List.map_drop, -List.map_take, num, bol, txt, w8, w16, w32, w64, lst, cls, rowO, boxO, List.take_of_length_le, Wr.cellsL_len, wA, Wr.k_mk, Wr.n_mk, Wr.s_mk, Wr.l_mk, Wr.cellsL, Wr.z_eq, rnT, ftT, hq]

end Go.Proofs.Tryd
