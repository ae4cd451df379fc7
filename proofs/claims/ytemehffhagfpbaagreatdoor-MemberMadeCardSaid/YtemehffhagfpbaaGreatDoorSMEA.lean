/- Contracts of this program's functions. -/
import Derived.Test.YtemehffhagfpbaaGreatDoorSME8
set_option maxHeartbeats 4000000
set_option maxRecDepth 100000
set_option linter.unusedVariables false
set_option linter.unusedSimpArgs false
namespace Go.Proofs.Tryz
open Go Go.Ot

def R0 : Rc := ⟨1, [], 1, 0, [], []⟩
theorem R0_ok : rcP R0 := by decide +kernel
theorem R0_ck : ckB [(⟨1, [], 1, 0, [], []⟩ : Rc)] = true := by decide +kernel
theorem N_ck : ckB ([] : List Rc) = true := by decide +kernel
theorem R0_RG : RG (rcF ⟨1, [], 1, 0, [], []⟩) = some ⟨1, [], 1, 0, [], []⟩ := RG_rc R0_ok
theorem rc_back {r : Rc} (hp : rcP r) : RG (rcF r) = some r ∧ (rcF r == []) = false ∧ (∀ c, c < (rcF r).length → RG ((rcF r).take c) = none) ∧ RG (rcF r ++ [0]) = none := by
 have hg := rc_got hp
 refine ⟨RG_rc hp, beq_nil_ne (rc_ne hp), fun c hc => RG_no (got_take hg hc), RG_no ?_⟩
 rw [rcF_t hp]
 exact got_more (rc_may hp) (rcW_rng hp)
theorem rc_turned {r q : Rc} {i : Nat} {b : UInt8} (hi : i < (rcF r).length) (hb : b ≠ 0) (h : RG ((rcF r).set i ((rcF r).getD i 0 ^^^ b)) = some q) : decide (q = r) = false := by
 refine decide_eq_false fun e => ?_
 have h1 := (RG_some h).2.1
 rw [e] at h1
 exact set_ne hi hb h1.symm
theorem hdW_rng {r : Rc} (h : rcP r) : rangeW 6 (hdW r) := by
 obtain ⟨h1, h2, h3, h4, ⟨h5, h6⟩, h7, h8⟩ := h
 have hk : 1 ≤ r.kind ∧ r.kind ≤ 2 := by rcases h4 with h4 | h4 <;> omega
 rw [hdW, rangeW_mk]
 refine ⟨by omega, fun x hx => ?_⟩
 simp only [List.mem_cons, List.not_mem_nil, or_false] at hx
 rcases hx with rfl | rfl | rfl | rfl
 ·exact ⟨⟨by omega, by omega⟩, fun x hx => by cases hx⟩
 ·exact ⟨⟨by omega, by omega⟩, fun x hx => by cases hx⟩
 ·exact ⟨⟨by omega, by omega⟩, fun x hx => by cases hx⟩
 ·exact ⟨by omega, fun x hx => by cases hx⟩
theorem hdF_inj {a b : Rc} (ha : rcP a) (hb : rcP b) : hdF a = hdF b ↔ (a.seq = b.seq ∧ a.prev = b.prev ∧ a.kind = b.kind ∧ a.dev = b.dev) := by
 constructor
 ·intro h
  have h1 : got (hdF a) = some (hdW a) := by rw [hdF_t ha]; exact got_PutW (hd_may ha) (hdW_rng ha)
  have h2 : got (hdF b) = some (hdW b) := by rw [hdF_t hb]; exact got_PutW (hd_may hb) (hdW_rng hb)
  rw [h, h2] at h1
  have h3 : hdW b = hdW a := Option.some.inj h1
  simp only [hdW, Wr.mk.injEq, List.cons.injEq, and_true, true_and] at h3
  exact ⟨h3.1.symm, h3.2.2.2.symm, h3.2.1.symm, h3.2.2.1.symm⟩
 ·rintro ⟨h1, h2, h3, h4⟩
  rw [hdF_t ha, hdF_t hb, hdW, hdW, h1, h2, h3, h4]
theorem hd_ne {a : Rc} (ha : rcP a) : hdF a ≠ [] := by rw [hdF_t ha]; exact PutW_ne (hd_may ha)
theorem lw0 (j : Nat) : (([] : List Rc).getD j default).wraps.length ≤ 9223372036854775807 := by simp; decide
theorem lw1 (j : Nat) : (([(⟨1, [], 1, 0, [], []⟩ : Rc)] : List Rc).getD j default).wraps.length ≤ 9223372036854775807 := by
 match j with
 | 0 => decide
 | j + 1 => simp; decide
attribute [local irreducible] wpK wpS seqK blockK loopF regK meetK OpSpec Le rdS lpW rdW got mayS mayW putS putW nb u64 PutW mwB sha rcF hdF hsh RG inF chC fl lkT
theorem awake_good (Γ : Gl) (hE : EG Γ)  : Go.Ot.Good Γ prog 6 [] [] (.t (bol true)) [] [] := by
 have h2k := rcF_len (⟨1, [], 1, 0, [], []⟩ : Rc)
 refine a_body F.mix func6 (by rfl) ntmps6 ?_
 refine k_seq ?_
 refine k_region rfl ?_
 refine a_op ?_
 refine s_nil (r_false ?_)
 refine q_next ?_
 refine k_seq ?_
 refine k_region rfl ?_
 iterate 3 refine a_op ?_
 refine s_nil (r_false ?_)
 refine q_next ?_
 refine k_seq ?_
 refine k_region rfl ?_
 refine a_op ?_
 refine a_call [] false (rput_good Γ ⟨1, [], 1, 0, [], []⟩ (by decide)) ?_ (hv := by (simp (disch := first | omega | (simp only [List.length_drop, List.length_take, List.length_map, List.length_append, List.length_cons, List.length_nil, List.length_replicate, List.length_set] <;> omega) | fail) [-List.map_map, -List.map_drop, -List.map_take, VwL_cons, VwL_nil, Vw_bad, Vw_t, Vw_ptr, Vw_msl, Vw_rop, Vw_agg, Vw_tup, Vw_ifc, VwT_refl, VwL_refl_map, Vw_nilmsl, VwT_msl, VwT_agg, VwT_v, VwT_nil, VwTs_cons, VwTs_nil, VwTs_refl, VwTs_app, List.take_of_length_le, srcL, notIn, ObsVw, SrcOk, pOk, Go.Ot.look, resP, resN, ev, evc, mkS, push_cast, List.take_of_length_le] <;> (try omega)))
 refine a_call [] true ((by have h := rget_good Γ hE (rcF ⟨1, [], 1, 0, [], []⟩) (by omega); rw [R0_RG] at h; exact h)) ?_
 iterate 6 refine a_op ?_
 refine s_nil (r_false ?_)
 refine q_next ?_
 refine k_seq ?_
 refine k_region rfl ?_
 refine a_call [] false ((by have h := check_good Γ [] (by decide) (by intro j; exact lw0 j); rw [N_ck] at h; exact h)) ?_ (hv := by (simp (disch := first | omega | (simp only [List.length_drop, List.length_take, List.length_map, List.length_append, List.length_cons, List.length_nil, List.length_replicate, List.length_set] <;> omega) | fail) [-List.map_map, -List.map_drop, -List.map_take, VwL_cons, VwL_nil, Vw_bad, Vw_t, Vw_ptr, Vw_msl, Vw_rop, Vw_agg, Vw_tup, Vw_ifc, VwT_refl, VwL_refl_map, Vw_nilmsl, VwT_msl, VwT_agg, VwT_v, VwT_nil, VwTs_cons, VwTs_nil, VwTs_refl, VwTs_app, List.take_of_length_le, srcL, notIn, ObsVw, SrcOk, pOk, Go.Ot.look, resP, resN, ev, evc, mkS, push_cast, List.take_of_length_le, List.flatMap_nil, List.length_nil] <;> (try omega)))
 refine a_op ?_
 refine a_go ?_
 refine a_go ?_
 refine a_callgo [.r 3 3 0] false ((by have h := check_good Γ [⟨1, [], 1, 0, [], []⟩] (by decide) (by intro j; exact lw1 j); rw [R0_ck] at h; exact h)) ?_ (hv := by (simp (disch := first | omega | (simp only [List.length_drop, List.length_take, List.length_map, List.length_append, List.length_cons, List.length_nil, List.length_replicate, List.length_set] <;> omega) | fail) [-List.map_map, -List.map_drop, -List.map_take, VwL_cons, VwL_nil, Vw_bad, Vw_t, Vw_ptr, Vw_msl, Vw_rop, Vw_agg, Vw_tup, Vw_ifc, VwT_refl, VwL_refl_map, Vw_nilmsl, VwT_msl, VwT_agg, VwT_v, VwT_nil, VwTs_cons, VwTs_nil, VwTs_refl, VwTs_app, List.take_of_length_le, srcL, notIn, ObsVw, SrcOk, pOk, Go.Ot.look, resP, resN, ev, evc, mkS, push_cast, List.take_of_length_le, List.flatMap_cons, List.flatMap_nil, rcT, wpT, List.append_nil] <;> (try omega)))
 refine a_op ?_
 refine a_op ?_
 refine a_go ?_
 refine a_op ?_
 refine a_op ?_
 refine a_go ?_
 refine a_go ?_
 refine a_callgo [] false ((by have h := same_good Γ ⟨1, [], 1, 0, [], []⟩ ⟨1, [], 1, 0, [], []⟩ (by decide) (by decide); rw [decide_eq_true rfl] at h; exact h)) ?_ (hv := by (simp (disch := first | omega | (simp only [List.length_drop, List.length_take, List.length_map, List.length_append, List.length_cons, List.length_nil, List.length_replicate, List.length_set] <;> omega) | fail) [-List.map_map, -List.map_drop, -List.map_take, VwL_cons, VwL_nil, Vw_bad, Vw_t, Vw_ptr, Vw_msl, Vw_rop, Vw_agg, Vw_tup, Vw_ifc, VwT_refl, VwL_refl_map, Vw_nilmsl, VwT_msl, VwT_agg, VwT_v, VwT_nil, VwTs_cons, VwTs_nil, VwTs_refl, VwTs_app, List.take_of_length_le, srcL, notIn, ObsVw, SrcOk, pOk, Go.Ot.look, resP, resN, ev, evc, mkS, push_cast, List.take_of_length_le] <;> (try omega)))
 refine a_op ?_
 refine a_op ?_
 refine a_go ?_
 refine a_callgo [] false (hash_good Γ ⟨1, [], 1, 0, [], []⟩ (by decide)) ?_ (hv := by (simp (disch := first | omega | (simp only [List.length_drop, List.length_take, List.length_map, List.length_append, List.length_cons, List.length_nil, List.length_replicate, List.length_set] <;> omega) | fail) [-List.map_map, -List.map_drop, -List.map_take, VwL_cons, VwL_nil, Vw_bad, Vw_t, Vw_ptr, Vw_msl, Vw_rop, Vw_agg, Vw_tup, Vw_ifc, VwT_refl, VwL_refl_map, Vw_nilmsl, VwT_msl, VwT_agg, VwT_v, VwT_nil, VwTs_cons, VwTs_nil, VwTs_refl, VwTs_app, List.take_of_length_le, srcL, notIn, ObsVw, SrcOk, pOk, Go.Ot.look, resP, resN, ev, evc, mkS, push_cast, List.take_of_length_le] <;> (try omega)))
 refine a_go (hs := by (simp (disch := omega) only [push_cast, reduceCtorEq, hsh_len] <;> rfl)) ?_
 refine a_go (hs := by (simp (disch := omega) only [push_cast, reduceCtorEq, hsh_len] <;> rfl)) ?_
 refine a_op ?_
 refine a_op ?_
 refine s_nil (r_false ?_)
 refine q_next ?_
 refine k_ret ?_
 refine ⟨.inr rfl, a_ret [] (by rw [results6]) ?_ ?_ ?_⟩ <;> simp [-List.map_set, -List.map_replicate, -List.reduceReplicate, -List.map_map, -List.map_drop, -List.map_take, num, bol, txt, w8, w16, w32, w64, lst, cls, rowO, boxO, List.take_of_length_le, Wr.cellsL_len, wA, Wr.k_mk, Wr.n_mk, Wr.s_mk, Wr.l_mk, Wr.cellsL, Wr.z_eq, rcT, wpT]

end Go.Proofs.Tryz
