/- Contracts of this program's functions. -/
import Derived.Test.YtlacdlafoclaeaaDoorSQ3
import Derived.Test.YtlacdlafoclaeaaDoorSQ7
import Derived.Test.YtlacdlafoclaeaaDoorSQ8
set_option maxHeartbeats 4000000
set_option maxRecDepth 100000
set_option linter.unusedVariables false
set_option linter.unusedSimpArgs false
namespace Go.Proofs.Tryd
open Go Go.Ot
attribute [local irreducible] wpK wpS seqK blockK loopF regK meetK OpSpec Le rdS lpW rdW got mayS mayW ixF putS putW nb nbS u64 fmT PutW Rq.p Rp.p GQ GP tsz wTs greatL
theorem all_law_good (Γ : Gl) (hE : EG Γ) (r : Rq) (y : Rp) (s : List UInt8) (hr : r.b.length ≤ 9223372036854775807) (hyl : y.l.length ≤ 9223372036854775807) (hs : s.length ≤ 9223372036854775807) : Go.Ot.Good Γ prog 3 [qA r, pA y, .t (txt s)] [] (.t (bol true)) [] [] := by
  refine a_body F.mix func3 (by rfl) ntmps3 ?_
  refine k_seq ?_
  refine k_region rfl ?_
  iterate 3 refine a_op ?_
  refine s_nil (r_false ?_)
  refine q_next ?_
  refine k_seq ?_
  refine k_seq ?_
  refine k_region rfl ?_
  have h5 : 600 < r.b.length ∨ (r.b.length ≤ 600 ∧ greatL y.l = true) ∨ (r.b.length ≤ 600 ∧ greatL y.l = false ∧ 1500 < s.length) ∨ (r.b.length ≤ 600 ∧ greatL y.l = false ∧ s.length ≤ 1500) := by
    cases hy : greatL y.l <;> simp <;> omega
  rcases h5 with ha | ⟨ha, hy⟩ | ⟨ha, hy, hb⟩ | ⟨ha, hy, hb⟩
  · skip
    iterate 5 refine a_op ?_
    refine a_no ?_
    refine a_no ?_
    refine a_no ?_
    refine a_op ?_
    refine a_op ?_
    refine a_no ?_
    refine a_no ?_
    refine a_no ?_
    refine a_op ?_
    refine s_nil (r_false ?_)
    refine q_next ?_
    refine a_true ?_
    refine k_seq ?_
    refine k_region rfl ?_
    refine a_call [] false (awake_good Γ hE) ?_
    refine a_op ?_
    refine s_nil (r_false ?_)
    refine q_next ?_
    refine k_ret ?_
    refine q_seq_ret ?_
    refine ⟨.inr rfl, a_ret [] (by rw [results3]) ?_ ?_ ?_⟩ <;> simp [-List.map_set, -List.map_replicate, -List.reduceReplicate, -List.map_map, -List.map_drop, -List.map_take, num, bol, txt, w8, w16, w32, w64, lst, cls, rowO, boxO, List.take_of_length_le, Wr.cellsL_len, wA, Wr.k_mk, Wr.n_mk, Wr.s_mk, Wr.l_mk, Wr.cellsL, Wr.z_eq]
  · skip
    iterate 5 refine a_op ?_
    refine a_go ?_
    refine a_go ?_
    refine a_callgo [] false ((by have h := great_good Γ y.l (by omega); rw [hy] at h; exact h)) ?_
    refine a_op ?_
    refine a_op ?_
    refine a_no ?_
    refine a_no ?_
    refine a_no ?_
    refine a_op ?_
    refine s_nil (r_false ?_)
    refine q_next ?_
    refine a_true ?_
    refine k_seq ?_
    refine k_region rfl ?_
    refine a_call [] false (awake_good Γ hE) ?_
    refine a_op ?_
    refine s_nil (r_false ?_)
    refine q_next ?_
    refine k_ret ?_
    refine q_seq_ret ?_
    refine ⟨.inr rfl, a_ret [] (by rw [results3]) ?_ ?_ ?_⟩ <;> simp [-List.map_set, -List.map_replicate, -List.reduceReplicate, -List.map_map, -List.map_drop, -List.map_take, num, bol, txt, w8, w16, w32, w64, lst, cls, rowO, boxO, List.take_of_length_le, Wr.cellsL_len, wA, Wr.k_mk, Wr.n_mk, Wr.s_mk, Wr.l_mk, Wr.cellsL, Wr.z_eq]
  · skip
    iterate 5 refine a_op ?_
    refine a_go ?_
    refine a_go ?_
    refine a_callgo [] false ((by have h := great_good Γ y.l (by omega); rw [hy] at h; exact h)) ?_
    refine a_op ?_
    refine a_op ?_
    refine a_go ?_
    refine a_go ?_
    refine a_go ?_
    refine a_op ?_
    refine s_nil (r_false ?_)
    refine q_next ?_
    refine a_true ?_
    refine k_seq ?_
    refine k_region rfl ?_
    refine a_call [] false (awake_good Γ hE) ?_
    refine a_op ?_
    refine s_nil (r_false ?_)
    refine q_next ?_
    refine k_ret ?_
    refine q_seq_ret ?_
    refine ⟨.inr rfl, a_ret [] (by rw [results3]) ?_ ?_ ?_⟩ <;> simp [-List.map_set, -List.map_replicate, -List.reduceReplicate, -List.map_map, -List.map_drop, -List.map_take, num, bol, txt, w8, w16, w32, w64, lst, cls, rowO, boxO, List.take_of_length_le, Wr.cellsL_len, wA, Wr.k_mk, Wr.n_mk, Wr.s_mk, Wr.l_mk, Wr.cellsL, Wr.z_eq]
  · skip
    iterate 5 refine a_op ?_
    refine a_go ?_
    refine a_go ?_
    refine a_callgo [] false ((by have h := great_good Γ y.l (by omega); rw [hy] at h; exact h)) ?_
    refine a_op ?_
    refine a_op ?_
    refine a_go ?_
    refine a_go ?_
    refine a_go ?_
    refine a_op ?_
    refine s_nil (r_false ?_)
    refine q_next ?_
    refine a_false ?_
    refine k_skip ?_
    refine q_next ?_
    refine k_seq ?_
    refine k_region rfl ?_
    obtain ⟨m3, f3, t3, n3⟩ := rp_fit hy
    rcases hq : GQ s with _ | q <;> rcases hp : GP s with _ | p
    · try have hpl := gp_len hp
      refine a_op ?_
      refine a_call [] false ((by have h := Getq_good Γ hE (s) (by omega); rw [hq, ansQ_none] at h; exact h)) ?_
      iterate 6 refine a_op ?_
      refine s_nil (r_false ?_)
      refine q_next ?_
      refine k_seq ?_
      refine k_region rfl ?_
      refine a_op ?_
      refine a_call [] true ((by have h := GetRq_good Γ s (by omega); rw [hq, refRq_none] at h; exact h)) ?_
      refine a_op ?_
      refine a_op ?_
      refine s_nil (r_false ?_)
      refine q_next ?_
      refine k_seq ?_
      refine k_region rfl ?_
      refine a_op ?_
      refine a_call [] true ((by have h := Getp_good Γ hE (s) (by omega); rw [hp, ansP_none] at h; exact h)) ?_
      iterate 6 refine a_op ?_
      refine s_nil (r_false ?_)
      refine q_next ?_
      refine k_seq ?_
      refine k_region rfl ?_
      refine a_op ?_
      refine a_call [] true ((by have h := GetRp_good Γ s (by omega); rw [hp, refRp_none] at h; exact h)) ?_
      refine a_op ?_
      refine a_op ?_
      refine s_nil (r_false ?_)
      refine q_next ?_
      refine k_seq ?_
      refine k_region rfl ?_
      refine a_opd ?_
      refine a_calld [] false (rqPut_good Γ r) ?_
      refine a_opd ?_
      refine a_calld [] false (rqPutR_good Γ r) ?_
      refine a_opd ?_
      refine a_opd ?_
      refine a_god ?_
      refine a_callgod [] false (rpPut_good Γ y (by omega) (by omega)) ?_
      refine a_god ?_
      refine a_callgod [] false (rpPutR_good Γ y (by omega) (by omega)) ?_
      refine a_god ?_
      refine a_opd ?_
      refine a_opd ?_
      refine a_god ?_
      refine a_god ?_
      refine a_god ?_
      refine a_eqsgod _ ?_ (eq_rq (q := ⟨0, 0, 0, []⟩) (r := ⟨0, 0, 0, []⟩) (decide_eq_true rfl))
      refine a_opd ?_
      refine a_opd ?_
      refine a_god ?_
      refine a_god ?_
      refine a_god ?_
      refine a_god ?_
      refine a_opd ?_
      refine a_opd ?_
      refine a_god ?_
      refine a_god ?_
      refine a_god ?_
      refine a_callgod [] false ((by have h := SameReply_good Γ ⟨0, 0, 0, []⟩ ⟨0, 0, 0, []⟩ (by first | omega | decide); rw [decide_eq_true rfl] at h; exact h)) ?_
      refine a_opd ?_
      refine a_opd ?_
      refine a_god ?_
      refine a_god ?_
      refine a_god ?_
      refine a_god ?_
      refine a_opd ?_
      refine a_opd ?_
      refine a_callgod [] false (awake_good Γ hE) ?_
      refine a_opd ?_
      refine a_opd ?_
      refine s_nil (r_true (by kernel_rfl) ?_)
      refine q_next ?_
      refine k_ret ?_
      refine ⟨.inr rfl, a_ret [] (by rw [results3]) ?_ ?_ ?_⟩ <;> simp [-List.map_set, -List.map_replicate, -List.reduceReplicate, -List.map_map, -List.map_drop, -List.map_take, num, bol, txt, w8, w16, w32, w64, lst, cls, rowO, boxO, List.take_of_length_le, Wr.cellsL_len, wA, Wr.k_mk, Wr.n_mk, Wr.s_mk, Wr.l_mk, Wr.cellsL, Wr.z_eq]
    · try have hpl := gp_len hp
      refine a_op ?_
      refine a_call [] false ((by have h := Getq_good Γ hE (s) (by omega); rw [hq, ansQ_none] at h; exact h)) ?_
      iterate 6 refine a_op ?_
      refine s_nil (r_false ?_)
      refine q_next ?_
      refine k_seq ?_
      refine k_region rfl ?_
      refine a_op ?_
      refine a_call [] true ((by have h := GetRq_good Γ s (by omega); rw [hq, refRq_none] at h; exact h)) ?_
      refine a_op ?_
      refine a_op ?_
      refine s_nil (r_false ?_)
      refine q_next ?_
      refine k_seq ?_
      refine k_region rfl ?_
      refine a_op ?_
      refine a_call [] true ((by have h := Getp_good Γ hE (s) (by omega); rw [hp, ansP_some] at h; exact h)) ?_
      iterate 6 refine a_op ?_
      refine s_nil (r_false ?_)
      refine q_next ?_
      refine k_seq ?_
      refine k_region rfl ?_
      refine a_op ?_
      refine a_call [] true ((by have h := GetRp_good Γ s (by omega); rw [hp, refRp_some] at h; exact h)) ?_
      refine a_op ?_
      refine a_op ?_
      refine s_nil (r_false ?_)
      refine q_next ?_
      refine k_seq ?_
      refine k_region rfl ?_
      refine a_opd ?_
      refine a_calld [] false (rqPut_good Γ r) ?_
      refine a_opd ?_
      refine a_calld [] false (rqPutR_good Γ r) ?_
      refine a_opd ?_
      refine a_opd ?_
      refine a_god ?_
      refine a_callgod [] false (rpPut_good Γ y (by omega) (by omega)) ?_
      refine a_god ?_
      refine a_callgod [] false (rpPutR_good Γ y (by omega) (by omega)) ?_
      refine a_god ?_
      refine a_opd ?_
      refine a_opd ?_
      refine a_god ?_
      refine a_god ?_
      refine a_god ?_
      refine a_eqsgod _ ?_ (eq_rq (q := ⟨0, 0, 0, []⟩) (r := ⟨0, 0, 0, []⟩) (decide_eq_true rfl))
      refine a_opd ?_
      refine a_opd ?_
      refine a_god ?_
      refine a_god ?_
      refine a_god ?_
      refine a_god ?_
      refine a_opd ?_
      refine a_opd ?_
      refine a_god ?_
      refine a_god ?_
      refine a_god ?_
      refine a_callgod [] false ((by have h := SameReply_good Γ p p (by first | omega | decide); rw [decide_eq_true rfl] at h; exact h)) ?_
      refine a_opd ?_
      refine a_opd ?_
      refine a_god ?_
      refine a_god ?_
      refine a_god ?_
      refine a_god ?_
      refine a_opd ?_
      refine a_opd ?_
      refine a_callgod [] false (awake_good Γ hE) ?_
      refine a_opd ?_
      refine a_opd ?_
      refine s_nil (r_true (by kernel_rfl) ?_)
      refine q_next ?_
      refine k_ret ?_
      refine ⟨.inr rfl, a_ret [] (by rw [results3]) ?_ ?_ ?_⟩ <;> simp [-List.map_set, -List.map_replicate, -List.reduceReplicate, -List.map_map, -List.map_drop, -List.map_take, num, bol, txt, w8, w16, w32, w64, lst, cls, rowO, boxO, List.take_of_length_le, Wr.cellsL_len, wA, Wr.k_mk, Wr.n_mk, Wr.s_mk, Wr.l_mk, Wr.cellsL, Wr.z_eq]
    · try have hpl := gp_len hp
      refine a_op ?_
      refine a_call [] false ((by have h := Getq_good Γ hE (s) (by omega); rw [hq, ansQ_some] at h; exact h)) ?_
      iterate 6 refine a_op ?_
      refine s_nil (r_false ?_)
      refine q_next ?_
      refine k_seq ?_
      refine k_region rfl ?_
      refine a_op ?_
      refine a_call [] true ((by have h := GetRq_good Γ s (by omega); rw [hq, refRq_some] at h; exact h)) ?_
      refine a_op ?_
      refine a_op ?_
      refine s_nil (r_false ?_)
      refine q_next ?_
      refine k_seq ?_
      refine k_region rfl ?_
      refine a_op ?_
      refine a_call [] true ((by have h := Getp_good Γ hE (s) (by omega); rw [hp, ansP_none] at h; exact h)) ?_
      iterate 6 refine a_op ?_
      refine s_nil (r_false ?_)
      refine q_next ?_
      refine k_seq ?_
      refine k_region rfl ?_
      refine a_op ?_
      refine a_call [] true ((by have h := GetRp_good Γ s (by omega); rw [hp, refRp_none] at h; exact h)) ?_
      refine a_op ?_
      refine a_op ?_
      refine s_nil (r_false ?_)
      refine q_next ?_
      refine k_seq ?_
      refine k_region rfl ?_
      refine a_opd ?_
      refine a_calld [] false (rqPut_good Γ r) ?_
      refine a_opd ?_
      refine a_calld [] false (rqPutR_good Γ r) ?_
      refine a_opd ?_
      refine a_opd ?_
      refine a_god ?_
      refine a_callgod [] false (rpPut_good Γ y (by omega) (by omega)) ?_
      refine a_god ?_
      refine a_callgod [] false (rpPutR_good Γ y (by omega) (by omega)) ?_
      refine a_god ?_
      refine a_opd ?_
      refine a_opd ?_
      refine a_god ?_
      refine a_god ?_
      refine a_god ?_
      refine a_eqsgod _ ?_ (eq_rq (q := q) (r := q) (decide_eq_true rfl))
      refine a_opd ?_
      refine a_opd ?_
      refine a_god ?_
      refine a_god ?_
      refine a_god ?_
      refine a_god ?_
      refine a_opd ?_
      refine a_opd ?_
      refine a_god ?_
      refine a_god ?_
      refine a_god ?_
      refine a_callgod [] false ((by have h := SameReply_good Γ ⟨0, 0, 0, []⟩ ⟨0, 0, 0, []⟩ (by first | omega | decide); rw [decide_eq_true rfl] at h; exact h)) ?_
      refine a_opd ?_
      refine a_opd ?_
      refine a_god ?_
      refine a_god ?_
      refine a_god ?_
      refine a_god ?_
      refine a_opd ?_
      refine a_opd ?_
      refine a_callgod [] false (awake_good Γ hE) ?_
      refine a_opd ?_
      refine a_opd ?_
      refine s_nil (r_true (by kernel_rfl) ?_)
      refine q_next ?_
      refine k_ret ?_
      refine ⟨.inr rfl, a_ret [] (by rw [results3]) ?_ ?_ ?_⟩ <;> simp [-List.map_set, -List.map_replicate, -List.reduceReplicate, -List.map_map, -List.map_drop, -List.map_take, num, bol, txt, w8, w16, w32, w64, lst, cls, rowO, boxO, List.take_of_length_le, Wr.cellsL_len, wA, Wr.k_mk, Wr.n_mk, Wr.s_mk, Wr.l_mk, Wr.cellsL, Wr.z_eq]
    · try have hpl := gp_len hp
      refine a_op ?_
      refine a_call [] false ((by have h := Getq_good Γ hE (s) (by omega); rw [hq, ansQ_some] at h; exact h)) ?_
      iterate 6 refine a_op ?_
      refine s_nil (r_false ?_)
      refine q_next ?_
      refine k_seq ?_
      refine k_region rfl ?_
      refine a_op ?_
      refine a_call [] true ((by have h := GetRq_good Γ s (by omega); rw [hq, refRq_some] at h; exact h)) ?_
      refine a_op ?_
      refine a_op ?_
      refine s_nil (r_false ?_)
      refine q_next ?_
      refine k_seq ?_
      refine k_region rfl ?_
      refine a_op ?_
      refine a_call [] true ((by have h := Getp_good Γ hE (s) (by omega); rw [hp, ansP_some] at h; exact h)) ?_
      iterate 6 refine a_op ?_
      refine s_nil (r_false ?_)
      refine q_next ?_
      refine k_seq ?_
      refine k_region rfl ?_
      refine a_op ?_
      refine a_call [] true ((by have h := GetRp_good Γ s (by omega); rw [hp, refRp_some] at h; exact h)) ?_
      refine a_op ?_
      refine a_op ?_
      refine s_nil (r_false ?_)
      refine q_next ?_
      refine k_seq ?_
      refine k_region rfl ?_
      refine a_opd ?_
      refine a_calld [] false (rqPut_good Γ r) ?_
      refine a_opd ?_
      refine a_calld [] false (rqPutR_good Γ r) ?_
      refine a_opd ?_
      refine a_opd ?_
      refine a_god ?_
      refine a_callgod [] false (rpPut_good Γ y (by omega) (by omega)) ?_
      refine a_god ?_
      refine a_callgod [] false (rpPutR_good Γ y (by omega) (by omega)) ?_
      refine a_god ?_
      refine a_opd ?_
      refine a_opd ?_
      refine a_god ?_
      refine a_god ?_
      refine a_god ?_
      refine a_eqsgod _ ?_ (eq_rq (q := q) (r := q) (decide_eq_true rfl))
      refine a_opd ?_
      refine a_opd ?_
      refine a_god ?_
      refine a_god ?_
      refine a_god ?_
      refine a_god ?_
      refine a_opd ?_
      refine a_opd ?_
      refine a_god ?_
      refine a_god ?_
      refine a_god ?_
      refine a_callgod [] false ((by have h := SameReply_good Γ p p (by first | omega | decide); rw [decide_eq_true rfl] at h; exact h)) ?_
      refine a_opd ?_
      refine a_opd ?_
      refine a_god ?_
      refine a_god ?_
      refine a_god ?_
      refine a_god ?_
      refine a_opd ?_
      refine a_opd ?_
      refine a_callgod [] false (awake_good Γ hE) ?_
      refine a_opd ?_
      refine a_opd ?_
      refine s_nil (r_true (by kernel_rfl) ?_)
      refine q_next ?_
      refine k_ret ?_
      refine ⟨.inr rfl, a_ret [] (by rw [results3]) ?_ ?_ ?_⟩ <;> simp [-List.map_set, -List.map_replicate, -List.reduceReplicate, -List.map_map, -List.map_drop, -List.map_take, num, bol, txt, w8, w16, w32, w64, lst, cls, rowO, boxO, List.take_of_length_le, Wr.cellsL_len, wA, Wr.k_mk, Wr.n_mk, Wr.s_mk, Wr.l_mk, Wr.cellsL, Wr.z_eq]

end Go.Proofs.Tryd
