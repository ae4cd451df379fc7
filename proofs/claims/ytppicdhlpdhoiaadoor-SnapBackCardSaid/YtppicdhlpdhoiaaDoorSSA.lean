/- Contracts of this program's functions. -/
import Derived.Test.YtppicdhlpdhoiaaDoorSSP3
import Derived.Test.YtppicdhlpdhoiaaDoorSSM6
set_option maxHeartbeats 4000000
set_option maxRecDepth 100000
set_option linter.unusedVariables false
set_option linter.unusedSimpArgs false
namespace Go.Proofs.Tryd
open Go Go.Ot

def s0 : Sa := makF [0, 1]
theorem s0_one : s0.fs.length = 1 := by decide +kernel
theorem mak_q (ns : List UInt8) : saB (makF ns) = true := saB_q.2 (inv_may (by omega) (inv_makF ns))
theorem mak_b (ns : List UInt8) : (makF ns).seen.length ≤ 164 ∧ (makF ns).fs.length ≤ 164 := by have := inv_few (inv_makF ns); omega
theorem emp_q : saB ⟨[], []⟩ = true := by decide
theorem emp_len : (stF ⟨[], []⟩).length = 15 := by rw [stF_len emp_q (by decide)]; rfl
theorem st_lim {s : Sa} (h : saB s = true) (hl : s.seen.length ≤ 20000) : (stF s).length ≤ 1000000 := by
 have h2 := saB_q.1 h
 have h1 := fsz_le (fun f hf => (h2.fts f hf).1)
 have h3 := h2.few
 rw [stF_len h (by omega)]; omega
theorem GS_nil : GS [] = none := by simp [GS]
attribute [local irreducible] wpK wpS seqK blockK loopF regK meetK OpSpec Le rdS lpW rdW got mayS mayW putS putW nb u64 PutW stF saB makF
theorem awake_good (Γ : Gl) (hE : EG Γ)  : Go.Ot.Good Γ prog 6 [] [] (.t (bol true)) [] [] := by
 have hb := mak_b [0, 1]
 have hq := mak_q [0, 1]
 have h1 := s0_one
 have hgs := GS_st hq (by omega)
 have hln := st_lim hq (by omega)
 obtain ⟨s, hs⟩ : ∃ s, makF [0, 1] = s := ⟨_, rfl⟩
 rw [s0] at h1
 rw [hs] at hb hq h1 hgs hln
 obtain ⟨P, hP⟩ : ∃ p, stF ⟨[], []⟩ = p := ⟨_, rfl⟩
 have hPl := emp_len
 rw [hP] at hPl
 refine a_body F.mix func6 (by rfl) ntmps6 ?_
 refine k_seq ?_
 refine k_region rfl ?_
 refine a_op ?_
 refine s_nil (r_false ?_)
 refine q_next ?_
 refine k_seq ?_
 refine k_region rfl ?_
 refine a_op ?_
 refine a_call [.r 1 0 0] true (make_good Γ [0, 1] (by decide)) ?_
 simp only [hs]
 refine a_call [] false (sput_good Γ s (by omega) (by omega)) ?_
 refine a_call [] true ((by have h := sget_good Γ hE (stF s) (hln); rw [hgs] at h; exact h)) ?_
 iterate 6 refine a_op ?_
 refine s_nil (r_false ?_)
 refine q_next ?_
 refine k_seq ?_
 refine k_region rfl ?_
 refine a_op ?_
 refine a_call [] false (sput_good Γ ⟨[], []⟩ (by simp) (by simp)) ?_ (hv := by (simp (disch := first | omega | (simp only [List.length_drop, List.length_take, List.length_map, List.length_append, List.length_cons, List.length_nil, List.length_replicate, List.length_set] <;> omega) | fail) [-List.map_map, -List.map_drop, -List.map_take, VwL_cons, VwL_nil, Vw_bad, Vw_t, Vw_ptr, Vw_msl, Vw_rop, Vw_agg, Vw_tup, Vw_ifc, VwT_refl, VwL_refl_map, Vw_nilmsl, VwT_msl, VwT_agg, VwT_v, VwT_nil, VwTs_cons, VwTs_nil, VwTs_refl, VwTs_app, List.take_of_length_le, srcL, notIn, ObsVw, SrcOk, pOk, Go.Ot.look, resP, resN, ev, evc, mkS, push_cast, List.take_of_length_le, List.flatMap_nil, List.length_nil] <;> (try omega)))
 simp only [hP]
 iterate 3 refine a_op ?_
 refine a_go ?_
 refine a_op ?_
 refine a_op ?_
 refine a_go ?_
 refine a_go ?_
 refine a_go ?_
 refine a_go ?_
 refine a_op ?_
 refine a_op ?_
 refine s_nil (r_false ?_)
 refine q_next ?_
 refine k_ret ?_
 refine ⟨.inr rfl, a_ret [] (by rw [results6]) ?_ ?_ ?_⟩ <;> simp [-List.map_set, -List.map_replicate, -List.reduceReplicate, -List.map_map, -List.map_drop, -List.map_take, num, bol, txt, w8, w16, w32, w64, lst, cls, rowO, boxO, List.take_of_length_le, Wr.cellsL_len, wA, Wr.k_mk, Wr.n_mk, Wr.s_mk, Wr.l_mk, Wr.cellsL, Wr.z_eq, rnT, ftT]

end Go.Proofs.Tryd
