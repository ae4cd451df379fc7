/- Contracts of this program's functions. -/
import Derived.Test.YtemehffhagfpbaaGreatDoorSMF3
import Derived.Test.YtemehffhagfpbaaGreatDoorSMEA
import Derived.Test.YtemehffhagfpbaaGreatDoorSME9b
import Derived.Test.YtemehffhagfpbaaGreatDoorSMG2
import Derived.Test.YtemehffhagfpbaaGreatDoorOtE
set_option maxHeartbeats 4000000
set_option maxRecDepth 100000
set_option linter.unusedVariables false
set_option linter.unusedSimpArgs false
namespace Go.Proofs.Tryz
open Go Go.Ot
attribute [local irreducible] wpK wpS seqK blockK loopF regK meetK OpSpec Le rdS lpW rdW got mayS mayW putS putW nb u64 PutW mwB sha rcF hdF hsh RG inF chC fl lkT grR inR inB ckB chL chE
theorem made_good (Γ : Gl) (hE : EG Γ) (ns : List UInt8) (wh how : UInt8) (hn : ns.length ≤ 9223372036854775807) : Go.Ot.Good Γ prog 4 [.t (lst w8 ns), .t (w8 wh), .t (w8 how)] [] (.t (bol true)) [] [] := by
 obtain ⟨L, hL⟩ : ∃ L, chE ns = L := ⟨_, rfl⟩
 have hl := chE_len ns
 have hck := chE_ck ns
 have hw := nowrap (chE_w ns)
 have hwn := chE_w ns
 have hrc : ∀ j, j < (chE ns).length → rcP ((chE ns).getD j default) := fun j h => chE_rc ns h
 rw [hL] at hl hck hw hrc hwn
 have hwh := wh.toNat_lt
 obtain ⟨X, hX⟩ : ∃ X, wh.toNat % L.length = X := ⟨_, rfl⟩
 have hlX : X < L.length := by rw [← hX]; exact Nat.mod_lt _ (by omega)
 have tX := tmod_nat wh.toNat L.length
 have uX := (Int.natCast_emod wh.toNat L.length).symm
 rw [hX] at tX uX
 obtain ⟨r, hr⟩ : ∃ r, L.getD X default = r := ⟨_, rfl⟩
 have hp := hrc X hlX
 have hwr := hw X
 rw [hr] at hp hwr
 have h2k := rcF_len r
 have hhow := how.toNat_lt
 have hsq1 := hp.1
 have hsq2 := hp.2.1
 have hkd : r.kind = 1 ∨ r.kind = 2 := hp.2.2.2.1
 have hdv1 := hp.2.2.2.2.1.1
 have hdv2 := hp.2.2.2.2.1.2
 obtain ⟨H, hH, hH1, hH2⟩ : ∃ H : Int, (how.toNat : Int) % 7 = H ∧ 0 ≤ H ∧ H ≤ 6 := ⟨_, rfl, by omega, by omega⟩
 have hdt : (r.dev + 1).tmod 8 = (r.dev + 1) % 8 := Int.tmod_eq_emod_of_nonneg (by omega)
 obtain ⟨n1, hn1⟩ : ∃ n : Nat, ((X : Int) + 1).toNat = n := ⟨_, rfl⟩
 have hn1' : n1 = X + 1 := by omega
 refine a_body F.mix func4 (by rfl) ntmps4 ?_
 refine k_seq ?_
 refine k_region rfl ?_
 refine a_op ?_
 refine s_nil (r_false ?_)
 refine q_next ?_
 refine k_seq ?_
 refine k_region rfl ?_
 refine a_op ?_
 refine a_call [] true ((by have h := chain_good Γ ns hn; rw [hL] at h; exact h)) ?_
 refine a_op ?_
 refine s_nil (r_false ?_)
 refine q_next ?_
 refine k_seq ?_
 refine k_seq ?_
 refine k_region rfl ?_
 refine a_op ?_
 refine a_call [] false ((by have h := check_good Γ L (by omega) hw; rw [hck] at h; exact h)) ?_
 refine a_op ?_
 refine s_nil (r_false ?_)
 refine q_next ?_
 refine a_false ?_
 refine k_skip ?_
 refine q_next ?_
 refine k_seq ?_
 refine k_region rfl ?_
 iterate 4 refine a_op ?_
 refine a_op (hs := by (simp (disch := omega) only [push_cast, reduceCtorEq, tX, uX] <;> rfl)) ?_
 refine a_op ?_
 refine s_nil (r_false ?_)
 refine q_next ?_
 refine k_seq ?_
 refine k_region rfl ?_
 iterate 4 refine a_op ?_
 simp only [hr]
 refine a_call [] false (rput_good Γ r hwr) ?_
 refine a_call [] true ((by have h := rget_good Γ hE (rcF r) (by omega); rw [RG_rc hp] at h; exact h)) ?_
 iterate 6 refine a_op ?_
 refine s_nil (r_false ?_)
 refine q_next ?_
 refine k_seq ?_
 refine k_seq ?_
 refine k_region rfl ?_
 iterate 3 refine a_opd ?_
 refine a_god ?_
 refine a_god ?_
 refine a_god ?_
 refine a_god ?_
 refine a_god ?_
 simp only [hr]
 refine a_callgod [] false (by have h := sameR_good Γ r r hwr hwr; rw [decide_eq_true rfl] at h; exact h) ?_
 refine a_god ?_
 refine a_opd ?_
 refine s_nil (r_true (by kernel_rfl) ?_)
 refine q_next ?_
 refine a_false ?_
 refine k_skip ?_
 refine q_next ?_
 refine k_seq ?_
 refine k_region rfl ?_
 iterate 4 refine a_op ?_
 refine s_nil (r_false ?_)
 refine q_next ?_
 refine k_seq ?_
 refine k_seq ?_
 refine k_region rfl ?_
 refine a_op ?_
 refine a_op (hs := by (simp (disch := omega) only [push_cast, reduceCtorEq, hH] <;> rfl)) ?_
 refine s_nil (r_false ?_)
 refine q_next ?_
 refine k_block ?_
 refine k_seq ?_
 refine k_region rfl ?_
 rcases (show H = 0 ∨ H = 1 ∨ H = 2 ∨ H = 3 ∨ H = 4 ∨ H = 5 ∨ H = 6 by omega) with rfl | rfl | rfl | rfl | rfl | rfl | rfl
 ·skip
  refine a_op ?_
  refine a_op ?_
  refine s_nil (r_false ?_)
  refine q_next ?_
  refine a_true ?_
  refine k_region rfl ?_
  iterate 7 refine a_op ?_
  simp only [hr]
  iterate 4 refine a_op ?_
  refine s_nil (r_false ?_)
  refine q_block (q_next ?_)
  refine k_seq ?_
  refine k_region rfl ?_
  obtain ⟨Q, hQ⟩ : ∃ Q, Q = L.set X ⟨r.seq, r.prev, 3 - r.kind, r.dev, r.wraps, r.tag⟩ := ⟨_, rfl⟩
  have hQl : Q.length = L.length := by rw [hQ, List.length_set]
  have hQw : ∀ j, (Q.getD j default).wraps.length ≤ 9223372036854775807 := fun j => by rw [hQ]; exact set_w (r' := ⟨r.seq, r.prev, 3 - r.kind, r.dev, r.wraps, r.tag⟩) hw hwr X j
  have hce := rcs_set (j := 2) (r' := ⟨r.seq, r.prev, 3 - r.kind, r.dev, r.wraps, r.tag⟩) (c := num (3 - r.kind)) hlX hr (by decide) rfl
  rw [← hQ] at hce
  have hqa := rcs_all hQl
  simp only [num, txt] at hce
  simp only [hce]
  refine a_op ?_
  refine a_call [.r 8 0 0] false (check_good Γ Q (by omega) hQw) ?_ (hv := by (simp (disch := first | omega | (simp only [List.length_drop, List.length_take, List.length_map, List.length_append, List.length_cons, List.length_nil, List.length_replicate, List.length_set] <;> omega) | fail) [-List.map_map, -List.map_drop, -List.map_take, VwL_cons, VwL_nil, Vw_bad, Vw_t, Vw_ptr, Vw_msl, Vw_rop, Vw_agg, Vw_tup, Vw_ifc, VwT_refl, VwL_refl_map, Vw_nilmsl, VwT_msl, VwT_agg, VwT_v, VwT_nil, VwTs_cons, VwTs_nil, VwTs_refl, VwTs_app, List.take_of_length_le, srcL, notIn, ObsVw, SrcOk, pOk, Go.Ot.look, resP, resN, ev, evc, mkS, push_cast, List.take_of_length_le, hQl, hqa, rcs_len, -List.length_flatMap] <;> (try omega)))
  refine a_op ?_
  refine a_call [.r 8 0 0] false (checkR_good Γ Q (by omega) hQw) ?_ (hv := by (simp (disch := first | omega | (simp only [List.length_drop, List.length_take, List.length_map, List.length_append, List.length_cons, List.length_nil, List.length_replicate, List.length_set] <;> omega) | fail) [-List.map_map, -List.map_drop, -List.map_take, VwL_cons, VwL_nil, Vw_bad, Vw_t, Vw_ptr, Vw_msl, Vw_rop, Vw_agg, Vw_tup, Vw_ifc, VwT_refl, VwL_refl_map, Vw_nilmsl, VwT_msl, VwT_agg, VwT_v, VwT_nil, VwTs_cons, VwTs_nil, VwTs_refl, VwTs_app, List.take_of_length_le, srcL, notIn, ObsVw, SrcOk, pOk, Go.Ot.look, resP, resN, ev, evc, mkS, push_cast, List.take_of_length_le, hQl, hqa, rcs_len, -List.length_flatMap] <;> (try omega)))
  refine a_op (hs := by (simp (disch := omega) only [push_cast, reduceCtorEq, beq_self_eq_true] <;> rfl)) ?_
  refine a_op ?_
  refine a_callgo [] false (awake_good Γ hE) ?_
  refine a_op ?_
  refine a_op ?_
  refine s_nil (r_false ?_)
  refine q_next ?_
  refine k_ret ?_
  refine ⟨.inr rfl, a_ret [] (by rw [results4]) ?_ ?_ ?_⟩ <;> simp [-List.map_set, -List.map_replicate, -List.reduceReplicate, -List.map_map, -List.map_drop, -List.map_take, num, bol, txt, w8, w16, w32, w64, lst, cls, rowO, boxO, List.take_of_length_le, Wr.cellsL_len, wA, Wr.k_mk, Wr.n_mk, Wr.s_mk, Wr.l_mk, Wr.cellsL, Wr.z_eq, rcT, wpT]
 ·skip
  refine a_op ?_
  refine a_op ?_
  refine s_nil (r_false ?_)
  refine q_next ?_
  refine a_false ?_
  refine k_seq ?_
  refine k_region rfl ?_
  refine a_op ?_
  refine a_op ?_
  refine s_nil (r_false ?_)
  refine q_next ?_
  refine a_true ?_
  refine k_region rfl ?_
  iterate 7 refine a_op ?_
  simp only [hr]
  refine a_op ?_
  refine a_op (hs := by (simp (disch := omega) only [push_cast, reduceCtorEq, hdt] <;> rfl)) ?_
  iterate 3 refine a_op ?_
  refine s_nil (r_false ?_)
  refine q_block (q_next ?_)
  refine k_seq ?_
  refine k_region rfl ?_
  obtain ⟨Q, hQ⟩ : ∃ Q, Q = L.set X ⟨r.seq, r.prev, r.kind, (r.dev + 1) % 8, r.wraps, r.tag⟩ := ⟨_, rfl⟩
  have hQl : Q.length = L.length := by rw [hQ, List.length_set]
  have hQw : ∀ j, (Q.getD j default).wraps.length ≤ 9223372036854775807 := fun j => by rw [hQ]; exact set_w (r' := ⟨r.seq, r.prev, r.kind, (r.dev + 1) % 8, r.wraps, r.tag⟩) hw hwr X j
  have hce := rcs_set (j := 3) (r' := ⟨r.seq, r.prev, r.kind, (r.dev + 1) % 8, r.wraps, r.tag⟩) (c := num ((r.dev + 1) % 8)) hlX hr (by decide) rfl
  rw [← hQ] at hce
  have hqa := rcs_all hQl
  simp only [num, txt] at hce
  simp only [hce]
  refine a_op ?_
  refine a_call [.r 8 0 0] false (check_good Γ Q (by omega) hQw) ?_ (hv := by (simp (disch := first | omega | (simp only [List.length_drop, List.length_take, List.length_map, List.length_append, List.length_cons, List.length_nil, List.length_replicate, List.length_set] <;> omega) | fail) [-List.map_map, -List.map_drop, -List.map_take, VwL_cons, VwL_nil, Vw_bad, Vw_t, Vw_ptr, Vw_msl, Vw_rop, Vw_agg, Vw_tup, Vw_ifc, VwT_refl, VwL_refl_map, Vw_nilmsl, VwT_msl, VwT_agg, VwT_v, VwT_nil, VwTs_cons, VwTs_nil, VwTs_refl, VwTs_app, List.take_of_length_le, srcL, notIn, ObsVw, SrcOk, pOk, Go.Ot.look, resP, resN, ev, evc, mkS, push_cast, List.take_of_length_le, hQl, hqa, rcs_len, -List.length_flatMap] <;> (try omega)))
  refine a_op ?_
  refine a_call [.r 8 0 0] false (checkR_good Γ Q (by omega) hQw) ?_ (hv := by (simp (disch := first | omega | (simp only [List.length_drop, List.length_take, List.length_map, List.length_append, List.length_cons, List.length_nil, List.length_replicate, List.length_set] <;> omega) | fail) [-List.map_map, -List.map_drop, -List.map_take, VwL_cons, VwL_nil, Vw_bad, Vw_t, Vw_ptr, Vw_msl, Vw_rop, Vw_agg, Vw_tup, Vw_ifc, VwT_refl, VwL_refl_map, Vw_nilmsl, VwT_msl, VwT_agg, VwT_v, VwT_nil, VwTs_cons, VwTs_nil, VwTs_refl, VwTs_app, List.take_of_length_le, srcL, notIn, ObsVw, SrcOk, pOk, Go.Ot.look, resP, resN, ev, evc, mkS, push_cast, List.take_of_length_le, hQl, hqa, rcs_len, -List.length_flatMap] <;> (try omega)))
  refine a_op (hs := by (simp (disch := omega) only [push_cast, reduceCtorEq, beq_self_eq_true] <;> rfl)) ?_
  refine a_op ?_
  refine a_callgo [] false (awake_good Γ hE) ?_
  refine a_op ?_
  refine a_op ?_
  refine s_nil (r_false ?_)
  refine q_next ?_
  refine k_ret ?_
  refine ⟨.inr rfl, a_ret [] (by rw [results4]) ?_ ?_ ?_⟩ <;> simp [-List.map_set, -List.map_replicate, -List.reduceReplicate, -List.map_map, -List.map_drop, -List.map_take, num, bol, txt, w8, w16, w32, w64, lst, cls, rowO, boxO, List.take_of_length_le, Wr.cellsL_len, wA, Wr.k_mk, Wr.n_mk, Wr.s_mk, Wr.l_mk, Wr.cellsL, Wr.z_eq, rcT, wpT]
 ·skip
  refine a_op ?_
  refine a_op ?_
  refine s_nil (r_false ?_)
  refine q_next ?_
  refine a_false ?_
  refine k_seq ?_
  refine k_region rfl ?_
  refine a_op ?_
  refine a_op ?_
  refine s_nil (r_false ?_)
  refine q_next ?_
  refine a_false ?_
  refine k_seq ?_
  refine k_region rfl ?_
  refine a_op ?_
  refine a_op ?_
  refine s_nil (r_false ?_)
  refine q_next ?_
  refine a_true ?_
  refine k_region rfl ?_
  iterate 5 refine a_op ?_
  simp only [hr]
  iterate 4 refine a_op ?_
  refine s_nil (r_false ?_)
  refine q_block (q_next ?_)
  refine k_seq ?_
  refine k_region rfl ?_
  obtain ⟨Q, hQ⟩ : ∃ Q, Q = L.set X ⟨r.seq + 1, r.prev, r.kind, r.dev, r.wraps, r.tag⟩ := ⟨_, rfl⟩
  have hQl : Q.length = L.length := by rw [hQ, List.length_set]
  have hQw : ∀ j, (Q.getD j default).wraps.length ≤ 9223372036854775807 := fun j => by rw [hQ]; exact set_w (r' := ⟨r.seq + 1, r.prev, r.kind, r.dev, r.wraps, r.tag⟩) hw hwr X j
  have hce := rcs_set (j := 0) (r' := ⟨r.seq + 1, r.prev, r.kind, r.dev, r.wraps, r.tag⟩) (c := num (r.seq + 1)) hlX hr (by decide) rfl
  rw [← hQ] at hce
  have hqa := rcs_all hQl
  rw [Nat.add_zero] at hce
  simp only [num, txt] at hce
  simp only [hce]
  refine a_op ?_
  refine a_call [.r 8 0 0] false (check_good Γ Q (by omega) hQw) ?_ (hv := by (simp (disch := first | omega | (simp only [List.length_drop, List.length_take, List.length_map, List.length_append, List.length_cons, List.length_nil, List.length_replicate, List.length_set] <;> omega) | fail) [-List.map_map, -List.map_drop, -List.map_take, VwL_cons, VwL_nil, Vw_bad, Vw_t, Vw_ptr, Vw_msl, Vw_rop, Vw_agg, Vw_tup, Vw_ifc, VwT_refl, VwL_refl_map, Vw_nilmsl, VwT_msl, VwT_agg, VwT_v, VwT_nil, VwTs_cons, VwTs_nil, VwTs_refl, VwTs_app, List.take_of_length_le, srcL, notIn, ObsVw, SrcOk, pOk, Go.Ot.look, resP, resN, ev, evc, mkS, push_cast, List.take_of_length_le, hQl, hqa, rcs_len, -List.length_flatMap] <;> (try omega)))
  refine a_op ?_
  refine a_call [.r 8 0 0] false (checkR_good Γ Q (by omega) hQw) ?_ (hv := by (simp (disch := first | omega | (simp only [List.length_drop, List.length_take, List.length_map, List.length_append, List.length_cons, List.length_nil, List.length_replicate, List.length_set] <;> omega) | fail) [-List.map_map, -List.map_drop, -List.map_take, VwL_cons, VwL_nil, Vw_bad, Vw_t, Vw_ptr, Vw_msl, Vw_rop, Vw_agg, Vw_tup, Vw_ifc, VwT_refl, VwL_refl_map, Vw_nilmsl, VwT_msl, VwT_agg, VwT_v, VwT_nil, VwTs_cons, VwTs_nil, VwTs_refl, VwTs_app, List.take_of_length_le, srcL, notIn, ObsVw, SrcOk, pOk, Go.Ot.look, resP, resN, ev, evc, mkS, push_cast, List.take_of_length_le, hQl, hqa, rcs_len, -List.length_flatMap] <;> (try omega)))
  refine a_op (hs := by (simp (disch := omega) only [push_cast, reduceCtorEq, beq_self_eq_true] <;> rfl)) ?_
  refine a_op ?_
  refine a_callgo [] false (awake_good Γ hE) ?_
  refine a_op ?_
  refine a_op ?_
  refine s_nil (r_false ?_)
  refine q_next ?_
  refine k_ret ?_
  refine ⟨.inr rfl, a_ret [] (by rw [results4]) ?_ ?_ ?_⟩ <;> simp [-List.map_set, -List.map_replicate, -List.reduceReplicate, -List.map_map, -List.map_drop, -List.map_take, num, bol, txt, w8, w16, w32, w64, lst, cls, rowO, boxO, List.take_of_length_le, Wr.cellsL_len, wA, Wr.k_mk, Wr.n_mk, Wr.s_mk, Wr.l_mk, Wr.cellsL, Wr.z_eq, rcT, wpT]
 ·skip
  refine a_op ?_
  refine a_op ?_
  refine s_nil (r_false ?_)
  refine q_next ?_
  refine a_false ?_
  refine k_seq ?_
  refine k_region rfl ?_
  refine a_op ?_
  refine a_op ?_
  refine s_nil (r_false ?_)
  refine q_next ?_
  refine a_false ?_
  refine k_seq ?_
  refine k_region rfl ?_
  refine a_op ?_
  refine a_op ?_
  refine s_nil (r_false ?_)
  refine q_next ?_
  refine a_false ?_
  refine k_seq ?_
  refine k_region rfl ?_
  refine a_op ?_
  refine a_op ?_
  refine s_nil (r_false ?_)
  refine q_next ?_
  refine a_true ?_
  refine k_region rfl ?_
  iterate 6 refine a_op ?_
  simp only [hr]
  refine a_call [] false (hashR_good Γ r hwr) ?_
  iterate 3 refine a_op ?_
  refine s_nil (r_false ?_)
  refine q_block (q_next ?_)
  refine k_seq ?_
  refine k_region rfl ?_
  obtain ⟨Q, hQ⟩ : ∃ Q, Q = L.set X ⟨r.seq, hsh r, r.kind, r.dev, r.wraps, r.tag⟩ := ⟨_, rfl⟩
  have hQl : Q.length = L.length := by rw [hQ, List.length_set]
  have hQw : ∀ j, (Q.getD j default).wraps.length ≤ 9223372036854775807 := fun j => by rw [hQ]; exact set_w (r' := ⟨r.seq, hsh r, r.kind, r.dev, r.wraps, r.tag⟩) hw hwr X j
  have hce := rcs_set (j := 1) (r' := ⟨r.seq, hsh r, r.kind, r.dev, r.wraps, r.tag⟩) (c := txt (hsh r)) hlX hr (by decide) rfl
  rw [← hQ] at hce
  have hqa := rcs_all hQl
  simp only [num, txt] at hce
  simp only [hce]
  refine a_op ?_
  refine a_call [.r 8 0 0] false (check_good Γ Q (by omega) hQw) ?_ (hv := by (simp (disch := first | omega | (simp only [List.length_drop, List.length_take, List.length_map, List.length_append, List.length_cons, List.length_nil, List.length_replicate, List.length_set] <;> omega) | fail) [-List.map_map, -List.map_drop, -List.map_take, VwL_cons, VwL_nil, Vw_bad, Vw_t, Vw_ptr, Vw_msl, Vw_rop, Vw_agg, Vw_tup, Vw_ifc, VwT_refl, VwL_refl_map, Vw_nilmsl, VwT_msl, VwT_agg, VwT_v, VwT_nil, VwTs_cons, VwTs_nil, VwTs_refl, VwTs_app, List.take_of_length_le, srcL, notIn, ObsVw, SrcOk, pOk, Go.Ot.look, resP, resN, ev, evc, mkS, push_cast, List.take_of_length_le, hQl, hqa, rcs_len, -List.length_flatMap] <;> (try omega)))
  refine a_op ?_
  refine a_call [.r 8 0 0] false (checkR_good Γ Q (by omega) hQw) ?_ (hv := by (simp (disch := first | omega | (simp only [List.length_drop, List.length_take, List.length_map, List.length_append, List.length_cons, List.length_nil, List.length_replicate, List.length_set] <;> omega) | fail) [-List.map_map, -List.map_drop, -List.map_take, VwL_cons, VwL_nil, Vw_bad, Vw_t, Vw_ptr, Vw_msl, Vw_rop, Vw_agg, Vw_tup, Vw_ifc, VwT_refl, VwL_refl_map, Vw_nilmsl, VwT_msl, VwT_agg, VwT_v, VwT_nil, VwTs_cons, VwTs_nil, VwTs_refl, VwTs_app, List.take_of_length_le, srcL, notIn, ObsVw, SrcOk, pOk, Go.Ot.look, resP, resN, ev, evc, mkS, push_cast, List.take_of_length_le, hQl, hqa, rcs_len, -List.length_flatMap] <;> (try omega)))
  refine a_op (hs := by (simp (disch := omega) only [push_cast, reduceCtorEq, beq_self_eq_true] <;> rfl)) ?_
  refine a_op ?_
  refine a_callgo [] false (awake_good Γ hE) ?_
  refine a_op ?_
  refine a_op ?_
  refine s_nil (r_false ?_)
  refine q_next ?_
  refine k_ret ?_
  refine ⟨.inr rfl, a_ret [] (by rw [results4]) ?_ ?_ ?_⟩ <;> simp [-List.map_set, -List.map_replicate, -List.reduceReplicate, -List.map_map, -List.map_drop, -List.map_take, num, bol, txt, w8, w16, w32, w64, lst, cls, rowO, boxO, List.take_of_length_le, Wr.cellsL_len, wA, Wr.k_mk, Wr.n_mk, Wr.s_mk, Wr.l_mk, Wr.cellsL, Wr.z_eq, rcT, wpT]
 ·skip
  refine a_op ?_
  refine a_op ?_
  refine s_nil (r_false ?_)
  refine q_next ?_
  refine a_false ?_
  refine k_seq ?_
  refine k_region rfl ?_
  refine a_op ?_
  refine a_op ?_
  refine s_nil (r_false ?_)
  refine q_next ?_
  refine a_false ?_
  refine k_seq ?_
  refine k_region rfl ?_
  refine a_op ?_
  refine a_op ?_
  refine s_nil (r_false ?_)
  refine q_next ?_
  refine a_false ?_
  refine k_seq ?_
  refine k_region rfl ?_
  refine a_op ?_
  refine a_op ?_
  refine s_nil (r_false ?_)
  refine q_next ?_
  refine a_false ?_
  refine k_seq ?_
  refine k_region rfl ?_
  refine a_op ?_
  refine a_op ?_
  refine s_nil (r_false ?_)
  refine q_next ?_
  refine a_true ?_
  refine g_start (.r 8 0 0) [11, 44, 101, 103, 104, 107] [] rfl ?_
  refine g_op ?_
  refine g_op ?_
  refine g_op ?_
  refine g_op ?_
  refine g_op ?_
  refine g_op ?_
  refine g_op (hs := by (simp (disch := omega) only [push_cast, reduceCtorEq, hn1] <;> rfl)) ?_
  refine g_by (spec_app_in (.tmp 103) (.tmp 107) 22 22 rfl F.u22 F.u22 F.a26 F.c26 F.b26 (m := .r 8 0 0) (n := X) (off := n1 * 6) (k := L.length - n1) (ob := ⟨(L.flatMap rcT).map D.t, 26, true, true⟩) (by first | rfl | (simp only [push_cast] <;> rfl)) (by first | rfl | (simp only [push_cast] <;> rfl)) (by first | rfl | (simp only [push_cast]; rfl)) rfl rfl rfl (by simp only [List.length_map, rcs_len]; omega) (by simp only [List.length_map, rcs_len]; omega) (by simp) (by simp only [maxLen]; omega) (by omega)) ?_
  refine g_op ?_
  refine g_nil ⟨g_ok (by kernel_rfl) (by kernel_rfl), ?_⟩
  refine q_block (q_next ?_)
  refine k_seq ?_
  refine k_region rfl ?_
  obtain ⟨Q, hQ⟩ : ∃ Q, Q = L.take X ++ L.drop (X + 1) := ⟨_, rfl⟩
  have hQl : Q.length = X + (L.length - n1) := by rw [hQ, List.length_append, List.length_take, List.length_drop]; omega
  have hQw := nowrap (l := Q) (fun q h => by rw [hQ] at h; rcases List.mem_append.1 h with h | h; exact hwn q (List.mem_of_mem_take h); exact hwn q (List.mem_of_mem_drop h))
  have hce := rcs_gone hlX
  rw [← hQ] at hce
  have hqa := rcs_all hQl
  subst hn1'
  simp only [hce]
  refine a_op ?_
  refine a_call [.r 8 0 0] false (check_good Γ Q (by omega) hQw) ?_ (hv := by (simp (disch := first | omega | (simp only [List.length_drop, List.length_take, List.length_map, List.length_append, List.length_cons, List.length_nil, List.length_replicate, List.length_set] <;> omega) | fail) [-List.map_map, -List.map_drop, -List.map_take, VwL_cons, VwL_nil, Vw_bad, Vw_t, Vw_ptr, Vw_msl, Vw_rop, Vw_agg, Vw_tup, Vw_ifc, VwT_refl, VwL_refl_map, Vw_nilmsl, VwT_msl, VwT_agg, VwT_v, VwT_nil, VwTs_cons, VwTs_nil, VwTs_refl, VwTs_app, List.take_of_length_le, srcL, notIn, ObsVw, SrcOk, pOk, Go.Ot.look, resP, resN, ev, evc, mkS, push_cast, List.take_of_length_le, hQl, hqa, rcs_len, -List.length_flatMap] <;> (try omega)))
  refine a_op ?_
  refine a_call [.r 8 0 0] false (checkR_good Γ Q (by omega) hQw) ?_ (hv := by (simp (disch := first | omega | (simp only [List.length_drop, List.length_take, List.length_map, List.length_append, List.length_cons, List.length_nil, List.length_replicate, List.length_set] <;> omega) | fail) [-List.map_map, -List.map_drop, -List.map_take, VwL_cons, VwL_nil, Vw_bad, Vw_t, Vw_ptr, Vw_msl, Vw_rop, Vw_agg, Vw_tup, Vw_ifc, VwT_refl, VwL_refl_map, Vw_nilmsl, VwT_msl, VwT_agg, VwT_v, VwT_nil, VwTs_cons, VwTs_nil, VwTs_refl, VwTs_app, List.take_of_length_le, srcL, notIn, ObsVw, SrcOk, pOk, Go.Ot.look, resP, resN, ev, evc, mkS, push_cast, List.take_of_length_le, hQl, hqa, rcs_len, -List.length_flatMap] <;> (try omega)))
  refine a_op (hs := by (simp (disch := omega) only [push_cast, reduceCtorEq, beq_self_eq_true] <;> rfl)) ?_
  refine a_op ?_
  refine a_callgo [] false (awake_good Γ hE) ?_
  refine a_op ?_
  refine a_op ?_
  refine s_nil (r_false ?_)
  refine q_next ?_
  refine k_ret ?_
  refine ⟨.inr rfl, a_ret [] (by rw [results4]) ?_ ?_ ?_⟩ <;> simp [-List.map_set, -List.map_replicate, -List.reduceReplicate, -List.map_map, -List.map_drop, -List.map_take, num, bol, txt, w8, w16, w32, w64, lst, cls, rowO, boxO, List.take_of_length_le, Wr.cellsL_len, wA, Wr.k_mk, Wr.n_mk, Wr.s_mk, Wr.l_mk, Wr.cellsL, Wr.z_eq, rcT, wpT]
 ·skip
  refine a_op ?_
  refine a_op ?_
  refine s_nil (r_false ?_)
  refine q_next ?_
  refine a_false ?_
  refine k_seq ?_
  refine k_region rfl ?_
  refine a_op ?_
  refine a_op ?_
  refine s_nil (r_false ?_)
  refine q_next ?_
  refine a_false ?_
  refine k_seq ?_
  refine k_region rfl ?_
  refine a_op ?_
  refine a_op ?_
  refine s_nil (r_false ?_)
  refine q_next ?_
  refine a_false ?_
  refine k_seq ?_
  refine k_region rfl ?_
  refine a_op ?_
  refine a_op ?_
  refine s_nil (r_false ?_)
  refine q_next ?_
  refine a_false ?_
  refine k_seq ?_
  refine k_region rfl ?_
  refine a_op ?_
  refine a_op ?_
  refine s_nil (r_false ?_)
  refine q_next ?_
  refine a_false ?_
  refine k_seq ?_
  refine k_region rfl ?_
  refine a_op ?_
  refine a_op ?_
  refine s_nil (r_false ?_)
  refine q_next ?_
  refine a_true ?_
  refine k_region rfl ?_
  iterate 5 refine a_op ?_
  refine s_nil (r_false ?_)
  refine q_block (q_next ?_)
  refine k_seq ?_
  refine k_region rfl ?_
  obtain ⟨Q, hQ⟩ : ∃ Q, Q = L.set X ⟨r.seq, r.prev, r.kind, r.dev, r.wraps, [102, 101, 100, 99, 98, 97, 57, 56, 55, 54, 53, 52, 51, 50, 49, 48]⟩ := ⟨_, rfl⟩
  have hQl : Q.length = L.length := by rw [hQ, List.length_set]
  have hQw : ∀ j, (Q.getD j default).wraps.length ≤ 9223372036854775807 := fun j => by rw [hQ]; exact set_w (r' := ⟨r.seq, r.prev, r.kind, r.dev, r.wraps, [102, 101, 100, 99, 98, 97, 57, 56, 55, 54, 53, 52, 51, 50, 49, 48]⟩) hw hwr X j
  have hce := rcs_set (j := 5) (r' := ⟨r.seq, r.prev, r.kind, r.dev, r.wraps, [102, 101, 100, 99, 98, 97, 57, 56, 55, 54, 53, 52, 51, 50, 49, 48]⟩) (c := txt [102, 101, 100, 99, 98, 97, 57, 56, 55, 54, 53, 52, 51, 50, 49, 48]) hlX hr (by decide) rfl
  rw [← hQ] at hce
  have hqa := rcs_all hQl
  simp only [num, txt] at hce
  simp only [hce]
  refine a_op ?_
  refine a_call [.r 8 0 0] false (check_good Γ Q (by omega) hQw) ?_ (hv := by (simp (disch := first | omega | (simp only [List.length_drop, List.length_take, List.length_map, List.length_append, List.length_cons, List.length_nil, List.length_replicate, List.length_set] <;> omega) | fail) [-List.map_map, -List.map_drop, -List.map_take, VwL_cons, VwL_nil, Vw_bad, Vw_t, Vw_ptr, Vw_msl, Vw_rop, Vw_agg, Vw_tup, Vw_ifc, VwT_refl, VwL_refl_map, Vw_nilmsl, VwT_msl, VwT_agg, VwT_v, VwT_nil, VwTs_cons, VwTs_nil, VwTs_refl, VwTs_app, List.take_of_length_le, srcL, notIn, ObsVw, SrcOk, pOk, Go.Ot.look, resP, resN, ev, evc, mkS, push_cast, List.take_of_length_le, hQl, hqa, rcs_len, -List.length_flatMap] <;> (try omega)))
  refine a_op ?_
  refine a_call [.r 8 0 0] false (checkR_good Γ Q (by omega) hQw) ?_ (hv := by (simp (disch := first | omega | (simp only [List.length_drop, List.length_take, List.length_map, List.length_append, List.length_cons, List.length_nil, List.length_replicate, List.length_set] <;> omega) | fail) [-List.map_map, -List.map_drop, -List.map_take, VwL_cons, VwL_nil, Vw_bad, Vw_t, Vw_ptr, Vw_msl, Vw_rop, Vw_agg, Vw_tup, Vw_ifc, VwT_refl, VwL_refl_map, Vw_nilmsl, VwT_msl, VwT_agg, VwT_v, VwT_nil, VwTs_cons, VwTs_nil, VwTs_refl, VwTs_app, List.take_of_length_le, srcL, notIn, ObsVw, SrcOk, pOk, Go.Ot.look, resP, resN, ev, evc, mkS, push_cast, List.take_of_length_le, hQl, hqa, rcs_len, -List.length_flatMap] <;> (try omega)))
  refine a_op (hs := by (simp (disch := omega) only [push_cast, reduceCtorEq, beq_self_eq_true] <;> rfl)) ?_
  refine a_op ?_
  refine a_callgo [] false (awake_good Γ hE) ?_
  refine a_op ?_
  refine a_op ?_
  refine s_nil (r_false ?_)
  refine q_next ?_
  refine k_ret ?_
  refine ⟨.inr rfl, a_ret [] (by rw [results4]) ?_ ?_ ?_⟩ <;> simp [-List.map_set, -List.map_replicate, -List.reduceReplicate, -List.map_map, -List.map_drop, -List.map_take, num, bol, txt, w8, w16, w32, w64, lst, cls, rowO, boxO, List.take_of_length_le, Wr.cellsL_len, wA, Wr.k_mk, Wr.n_mk, Wr.s_mk, Wr.l_mk, Wr.cellsL, Wr.z_eq, rcT, wpT]
 ·skip
  refine a_op ?_
  refine a_op ?_
  refine s_nil (r_false ?_)
  refine q_next ?_
  refine a_false ?_
  refine k_seq ?_
  refine k_region rfl ?_
  refine a_op ?_
  refine a_op ?_
  refine s_nil (r_false ?_)
  refine q_next ?_
  refine a_false ?_
  refine k_seq ?_
  refine k_region rfl ?_
  refine a_op ?_
  refine a_op ?_
  refine s_nil (r_false ?_)
  refine q_next ?_
  refine a_false ?_
  refine k_seq ?_
  refine k_region rfl ?_
  refine a_op ?_
  refine a_op ?_
  refine s_nil (r_false ?_)
  refine q_next ?_
  refine a_false ?_
  refine k_seq ?_
  refine k_region rfl ?_
  refine a_op ?_
  refine a_op ?_
  refine s_nil (r_false ?_)
  refine q_next ?_
  refine a_false ?_
  refine k_seq ?_
  refine k_region rfl ?_
  refine a_op ?_
  refine a_op ?_
  refine s_nil (r_false ?_)
  refine q_next ?_
  refine a_false ?_
  refine k_region rfl ?_
  iterate 7 refine a_op ?_
  refine s_nil (r_false ?_)
  refine q_block (q_next ?_)
  refine k_seq ?_
  refine k_region rfl ?_
  obtain ⟨Q, hQ⟩ : ∃ Q, Q = L.set X ⟨r.seq, r.prev, r.kind, r.dev, [⟨3, [120]⟩], r.tag⟩ := ⟨_, rfl⟩
  have hQl : Q.length = L.length := by rw [hQ, List.length_set]
  have hQw : ∀ j, (Q.getD j default).wraps.length ≤ 9223372036854775807 := fun j => by rw [hQ]; exact set_w (r' := ⟨r.seq, r.prev, r.kind, r.dev, [⟨3, [120]⟩], r.tag⟩) hw (by show 1 ≤ _; decide) X j
  have hce := rcs_setD (j := 4) (d := .msl (.r 10 3 0) 0 1 2) hlX hr (by decide)
  have hQf := (rcs_split (r' := ⟨r.seq, r.prev, r.kind, r.dev, [⟨3, [120]⟩], r.tag⟩) hlX hr).2
  rw [← hQ] at hQf
  have hqa : List.take (L.length * 6) (((L.take X).flatMap rcT).map D.t ++ (((rcT r).map D.t).set 4 (.msl (.r 10 3 0) 0 1 2) ++ ((L.drop (X + 1)).flatMap rcT).map D.t)) = ((L.take X).flatMap rcT).map D.t ++ (((rcT r).map D.t).set 4 (.msl (.r 10 3 0) 0 1 2) ++ ((L.drop (X + 1)).flatMap rcT).map D.t) := List.take_of_length_le (by rw [← hce, List.length_set, List.length_map, rcs_len]; exact Nat.le_refl _)
  simp only [rcT, List.map_cons, List.map_nil, List.set_cons_succ, List.set_cons_zero, List.cons_append, List.nil_append, num, txt] at hce hqa hQf
  simp only [hce]
  refine a_op ?_
  refine a_call [.r 8 0 0, .r 10 3 0] false (check_good Γ Q (by omega) hQw) ?_ (hv := by (simp (disch := first | omega | (simp only [List.length_drop, List.length_take, List.length_map, List.length_append, List.length_cons, List.length_nil, List.length_replicate, List.length_set] <;> omega) | fail) [-List.map_map, -List.map_drop, -List.map_take, VwL_cons, VwL_nil, Vw_bad, Vw_t, Vw_ptr, Vw_msl, Vw_rop, Vw_agg, Vw_tup, Vw_ifc, VwT_refl, VwL_refl_map, Vw_nilmsl, VwT_msl, VwT_agg, VwT_v, VwT_nil, VwTs_cons, VwTs_nil, VwTs_refl, VwTs_app, List.take_of_length_le, srcL, notIn, ObsVw, SrcOk, pOk, Go.Ot.look, resP, resN, ev, evc, mkS, push_cast, List.take_of_length_le, hQl, hqa, rcs_len, -List.length_flatMap, hQf, rcT, wpT, List.map_cons, List.map_nil, List.set_cons_succ, List.set_cons_zero, List.cons_append, List.nil_append, List.length_append, List.length_map, List.length_cons, List.length_nil] <;> (try omega)))
  refine a_op ?_
  refine a_call [.r 8 0 0, .r 10 3 0] false (checkR_good Γ Q (by omega) hQw) ?_ (hv := by (simp (disch := first | omega | (simp only [List.length_drop, List.length_take, List.length_map, List.length_append, List.length_cons, List.length_nil, List.length_replicate, List.length_set] <;> omega) | fail) [-List.map_map, -List.map_drop, -List.map_take, VwL_cons, VwL_nil, Vw_bad, Vw_t, Vw_ptr, Vw_msl, Vw_rop, Vw_agg, Vw_tup, Vw_ifc, VwT_refl, VwL_refl_map, Vw_nilmsl, VwT_msl, VwT_agg, VwT_v, VwT_nil, VwTs_cons, VwTs_nil, VwTs_refl, VwTs_app, List.take_of_length_le, srcL, notIn, ObsVw, SrcOk, pOk, Go.Ot.look, resP, resN, ev, evc, mkS, push_cast, List.take_of_length_le, hQl, hqa, rcs_len, -List.length_flatMap, hQf, rcT, wpT, List.map_cons, List.map_nil, List.set_cons_succ, List.set_cons_zero, List.cons_append, List.nil_append, List.length_append, List.length_map, List.length_cons, List.length_nil] <;> (try omega)))
  refine a_op (hs := by (simp (disch := omega) only [push_cast, reduceCtorEq, beq_self_eq_true] <;> rfl)) ?_
  refine a_op ?_
  refine a_callgo [] false (awake_good Γ hE) ?_
  refine a_op ?_
  refine a_op ?_
  refine s_nil (r_false ?_)
  refine q_next ?_
  refine k_ret ?_
  refine ⟨.inr rfl, a_ret [] (by rw [results4]) ?_ ?_ ?_⟩ <;> simp [-List.map_set, -List.map_replicate, -List.reduceReplicate, -List.map_map, -List.map_drop, -List.map_take, num, bol, txt, w8, w16, w32, w64, lst, cls, rowO, boxO, List.take_of_length_le, Wr.cellsL_len, wA, Wr.k_mk, Wr.n_mk, Wr.s_mk, Wr.l_mk, Wr.cellsL, Wr.z_eq, rcT, wpT]

end Go.Proofs.Tryz
