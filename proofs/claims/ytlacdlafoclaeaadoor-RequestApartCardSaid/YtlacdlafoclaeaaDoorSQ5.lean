/- Contracts of this program's functions. -/
import Derived.Test.YtlacdlafoclaeaaDoorSQ3
import Derived.Test.YtlacdlafoclaeaaDoorSQS
set_option maxHeartbeats 4000000
set_option maxRecDepth 100000
set_option linter.unusedVariables false
set_option linter.unusedSimpArgs false
namespace Go.Proofs.Tryd
open Go Go.Ot
attribute [local irreducible] wpK wpS seqK blockK loopF regK meetK OpSpec Le rdS lpW rdW got mayS mayW ixF putS putW nb nbS u64 fmT PutW Rq.p Rp.p GQ GP tsz wTs greatL
theorem apart_good (Γ : Gl) (hE : EG Γ) (r s : Rq) (y : Rp) (hr : r.b.length ≤ 9223372036854775807) (hs : s.b.length ≤ 9223372036854775807) (hyl : y.l.length ≤ 9223372036854775807) (or : r.ok) (os : s.ok) (oy : y.ok) : Go.Ot.Good Γ prog 6 [qA r, qA s, pA y] [] (.t (bol true)) [] [] := by
  refine a_body F.mix func6 (by rfl) ntmps6 ?_
  refine k_seq ?_
  refine k_region rfl ?_
  iterate 4 refine a_op ?_
  refine s_nil (r_false ?_)
  refine q_next ?_
  refine k_seq ?_
  refine k_seq ?_
  refine k_region rfl ?_
  have h5 : 600 < r.b.length ∨ (r.b.length ≤ 600 ∧ 600 < s.b.length) ∨ (r.b.length ≤ 600 ∧ s.b.length ≤ 600 ∧ greatL y.l = true) ∨ (r.b.length ≤ 600 ∧ s.b.length ≤ 600 ∧ greatL y.l = false) := by
    cases hy : greatL y.l <;> simp <;> omega
  rcases h5 with ha | ⟨ha, hb⟩ | ⟨ha, hb, hy⟩ | ⟨ha, hb, hy⟩
  · skip
    iterate 5 refine a_op ?_
    refine a_no ?_
    refine a_no ?_
    refine a_no ?_
    refine a_no ?_
    refine a_op ?_
    refine a_op ?_
    refine a_no ?_
    refine a_no ?_
    refine a_no ?_
    refine a_op ?_
    refine s_nil (r_false ?_)
    refine q_next ?_
    refine a_true ?_
    refine k_seq ?_
    refine k_region rfl ?_
    refine a_call [] false (awake_good Γ hE) ?_
    refine a_op ?_
    refine s_nil (r_false ?_)
    refine q_next ?_
    refine k_ret ?_
    refine q_seq_ret ?_
    refine ⟨.inr rfl, a_ret [] (by rw [results6]) ?_ ?_ ?_⟩ <;> simp [-List.map_set, -List.map_replicate, -List.reduceReplicate, -List.map_map, -List.map_drop, -List.map_take, num, bol, txt, w8, w16, w32, w64, lst, cls, rowO, boxO, List.take_of_length_le, Wr.cellsL_len, wA, Wr.k_mk, Wr.n_mk, Wr.s_mk, Wr.l_mk, Wr.cellsL, Wr.z_eq]
  · skip
    iterate 5 refine a_op ?_
    refine a_go ?_
    refine a_go ?_
    refine a_go ?_
    refine a_go ?_
    refine a_op ?_
    refine a_op ?_
    refine a_no ?_
    refine a_no ?_
    refine a_no ?_
    refine a_op ?_
    refine s_nil (r_false ?_)
    refine q_next ?_
    refine a_true ?_
    refine k_seq ?_
    refine k_region rfl ?_
    refine a_call [] false (awake_good Γ hE) ?_
    refine a_op ?_
    refine s_nil (r_false ?_)
    refine q_next ?_
    refine k_ret ?_
    refine q_seq_ret ?_
    refine ⟨.inr rfl, a_ret [] (by rw [results6]) ?_ ?_ ?_⟩ <;> simp [-List.map_set, -List.map_replicate, -List.reduceReplicate, -List.map_map, -List.map_drop, -List.map_take, num, bol, txt, w8, w16, w32, w64, lst, cls, rowO, boxO, List.take_of_length_le, Wr.cellsL_len, wA, Wr.k_mk, Wr.n_mk, Wr.s_mk, Wr.l_mk, Wr.cellsL, Wr.z_eq]
  · skip
    iterate 5 refine a_op ?_
    refine a_go ?_
    refine a_go ?_
    refine a_go ?_
    refine a_go ?_
    refine a_op ?_
    refine a_op ?_
    refine a_go ?_
    refine a_go ?_
    refine a_callgo [] false ((by have h := great_good Γ y.l (by omega); rw [hy] at h; exact h)) ?_
    refine a_op ?_
    refine s_nil (r_false ?_)
    refine q_next ?_
    refine a_true ?_
    refine k_seq ?_
    refine k_region rfl ?_
    refine a_call [] false (awake_good Γ hE) ?_
    refine a_op ?_
    refine s_nil (r_false ?_)
    refine q_next ?_
    refine k_ret ?_
    refine q_seq_ret ?_
    refine ⟨.inr rfl, a_ret [] (by rw [results6]) ?_ ?_ ?_⟩ <;> simp [-List.map_set, -List.map_replicate, -List.reduceReplicate, -List.map_map, -List.map_drop, -List.map_take, num, bol, txt, w8, w16, w32, w64, lst, cls, rowO, boxO, List.take_of_length_le, Wr.cellsL_len, wA, Wr.k_mk, Wr.n_mk, Wr.s_mk, Wr.l_mk, Wr.cellsL, Wr.z_eq]
  · skip
    iterate 5 refine a_op ?_
    refine a_go ?_
    refine a_go ?_
    refine a_go ?_
    refine a_go ?_
    refine a_op ?_
    refine a_op ?_
    refine a_go ?_
    refine a_go ?_
    refine a_callgo [] false ((by have h := great_good Γ y.l (by omega); rw [hy] at h; exact h)) ?_
    refine a_op ?_
    refine s_nil (r_false ?_)
    refine q_next ?_
    refine a_false ?_
    refine k_skip ?_
    refine q_next ?_
    refine k_seq ?_
    refine k_region rfl ?_
    obtain ⟨m1, f1⟩ := rq_fit ha
    obtain ⟨m2, f2⟩ := rq_fit hb
    obtain ⟨m3, f3, t3, n3⟩ := rp_fit hy
    refine a_op ?_
    refine a_call [] false (rqPut_good Γ r) ?_
    refine a_call [] true ((by have h := Getp_good Γ hE (r.p) (by omega); rw [apart_q m1 or, ansP_none] at h; exact h)) ?_
    iterate 6 refine a_op ?_
    refine s_nil (r_false ?_)
    refine q_next ?_
    refine k_seq ?_
    refine k_region rfl ?_
    refine a_op ?_
    refine a_call [] false (rpPut_good Γ y (by omega) (by omega)) ?_
    refine a_call [] false ((by have h := Getq_good Γ hE (y.p) (by omega); rw [apart_p m3 oy, ansQ_none] at h; exact h)) ?_
    iterate 6 refine a_op ?_
    refine s_nil (r_false ?_)
    refine q_next ?_
    refine k_seq ?_
    refine k_region rfl ?_
    have hh : ∃ b : Bool, decide (r = s) = b ∧ (r.p == s.p) = b := by
      by_cases h : r = s
      · exact ⟨true, decide_eq_true h, by rw [h]; simp⟩
      · exact ⟨false, decide_eq_false h, by simpa using fun e => h (rq_inj m1 or m2 os e)⟩
    obtain ⟨b, he, hpe⟩ := hh
    rcases b with _ | _
    · skip
      refine a_opd ?_
      refine a_calld [] false (rqPut_good Γ r) ?_
      refine a_opd ?_
      refine a_calld [] false (rqPut_good Γ s) ?_
      refine a_opd (hs := by (simp (disch := first | omega | (simp only [List.length_drop, List.length_take, List.length_map, List.length_append, List.length_cons, List.length_nil, List.length_replicate, List.length_set] <;> omega) | (simp only [push_cast] <;> omega) | fail) only [push_cast, reduceCtorEq, Nat.reduceAdd, Nat.reduceSub, Nat.reduceMul, Nat.reduceEqDiff, Nat.reduceLT, Nat.reduceLeDiff, Nat.reduceMod, Nat.reduceDiv, Int.reduceLE, Int.reduceLT, Int.reduceEq, Int.reduceToNat, Int.reduceAdd, Int.reduceSub, Int.reduceMul, Int.reduceNeg, hpe] <;> rfl)) ?_
      refine a_opd ?_
      refine a_opd ?_
      refine a_eqsd _ ?_ (eq_rq he)
      refine a_opd ?_
      refine a_opd ?_
      refine a_god ?_
      refine a_god ?_
      refine a_opd ?_
      refine a_opd ?_
      refine a_god ?_
      refine a_god ?_
      refine a_opd ?_
      refine a_opd ?_
      refine a_callgod [] false (awake_good Γ hE) ?_
      refine a_opd ?_
      refine a_opd ?_
      refine s_nil (r_true (by kernel_rfl) ?_)
      refine q_next ?_
      refine k_ret ?_
      refine ⟨.inr rfl, a_ret [] (by rw [results6]) ?_ ?_ ?_⟩ <;> simp [-List.map_set, -List.map_replicate, -List.reduceReplicate, -List.map_map, -List.map_drop, -List.map_take, num, bol, txt, w8, w16, w32, w64, lst, cls, rowO, boxO, List.take_of_length_le, Wr.cellsL_len, wA, Wr.k_mk, Wr.n_mk, Wr.s_mk, Wr.l_mk, Wr.cellsL, Wr.z_eq]
    · skip
      refine a_opd ?_
      refine a_calld [] false (rqPut_good Γ r) ?_
      refine a_opd ?_
      refine a_calld [] false (rqPut_good Γ s) ?_
      refine a_opd (hs := by (simp (disch := first | omega | (simp only [List.length_drop, List.length_take, List.length_map, List.length_append, List.length_cons, List.length_nil, List.length_replicate, List.length_set] <;> omega) | (simp only [push_cast] <;> omega) | fail) only [push_cast, reduceCtorEq, Nat.reduceAdd, Nat.reduceSub, Nat.reduceMul, Nat.reduceEqDiff, Nat.reduceLT, Nat.reduceLeDiff, Nat.reduceMod, Nat.reduceDiv, Int.reduceLE, Int.reduceLT, Int.reduceEq, Int.reduceToNat, Int.reduceAdd, Int.reduceSub, Int.reduceMul, Int.reduceNeg, hpe] <;> rfl)) ?_
      refine a_opd ?_
      refine a_opd ?_
      refine a_eqsd _ ?_ (eq_rq he)
      refine a_opd ?_
      refine a_opd ?_
      refine a_god ?_
      refine a_god ?_
      refine a_opd ?_
      refine a_opd ?_
      refine a_god ?_
      refine a_god ?_
      refine a_opd ?_
      refine a_opd ?_
      refine a_callgod [] false (awake_good Γ hE) ?_
      refine a_opd ?_
      refine a_opd ?_
      refine s_nil (r_true (by kernel_rfl) ?_)
      refine q_next ?_
      refine k_ret ?_
      refine ⟨.inr rfl, a_ret [] (by rw [results6]) ?_ ?_ ?_⟩ <;> simp [-List.map_set, -List.map_replicate, -List.reduceReplicate, -List.map_map, -List.map_drop, -List.map_take, num, bol, txt, w8, w16, w32, w64, lst, cls, rowO, boxO, List.take_of_length_le, Wr.cellsL_len, wA, Wr.k_mk, Wr.n_mk, Wr.s_mk, Wr.l_mk, Wr.cellsL, Wr.z_eq]

end Go.Proofs.Tryd
