/- Contracts of this program's functions. -/
import Derived.Test.YtppicdhlpdhoiaaDoorSSA
set_option maxHeartbeats 4000000
set_option maxRecDepth 100000
set_option linter.unusedVariables false
set_option linter.unusedSimpArgs false
namespace Go.Proofs.Tryd
open Go Go.Ot

theorem fsz_next {l : List Ft} {i : Nat} {f : Ft} (h : i < l.length) (he : l.getD i default = f) : fsz (l.take (i + 1)) = fsz (l.take i) + (51 + f.key.length + f.item.length) := by
 rw [List.take_add_one, List.getElem?_eq_getElem h, fsz, List.map_append, List.sum_append, ← getD_eq h, he]; simp [fsz]
theorem fsz_nil : fsz [] = 0 := rfl
theorem half_q {s : Sa} (h : saB s = true) : saB ⟨s.seen, []⟩ = true := saB_q.2 ⟨(saB_q.1 h).runs, Nat.zero_le _, fun f hf => (by cases hf), List.Pairwise.nil⟩
theorem fsz_tk {l : List Ft} (h : ∀ f ∈ l, ftP f) (i : Nat) : fsz (l.take i) ≤ 291 * l.length := Nat.le_trans (fsz_le fun f hf => h f (List.mem_of_mem_take hf)) (by rw [List.length_take]; omega)
attribute [local irreducible] wpK wpS seqK blockK loopF regK meetK OpSpec Le rdS lpW rdW got mayS mayW putS putW nb u64 PutW stF saB makF
theorem size_good (Γ : Gl) (hE : EG Γ) (ns : List UInt8) (hn : ns.length ≤ 9223372036854775807) : Go.Ot.Good Γ prog 4 [.t (lst w8 ns)] [] (.t (bol true)) [] [] := by
 have hb := mak_b ns
 have hq := mak_q ns
 obtain ⟨s, hs⟩ : ∃ s, makF ns = s := ⟨_, rfl⟩
 rw [hs] at hb hq
 have hln := stF_len hq (by omega)
 obtain ⟨P, hP⟩ : ∃ p, stF s = p := ⟨_, rfl⟩
 rw [hP] at hln
 have hl2 := stF_len (half_q hq) (by show s.seen.length ≤ _; omega)
 obtain ⟨Q, hQ⟩ : ∃ p, stF ⟨s.seen, []⟩ = p := ⟨_, rfl⟩
 rw [hQ, fsz_nil] at hl2
 replace hl2 : Q.length = 15 + 32 * s.seen.length := hl2
 have hft := fun f hf => ((saB_q.1 hq).fts f hf).1
 refine a_body F.mix func4 (by rfl) ntmps4 ?_
 refine k_seq ?_
 refine k_region rfl ?_
 refine a_op ?_
 refine s_nil (r_false ?_)
 refine q_next ?_
 refine k_seq ?_
 refine k_region rfl ?_
 refine a_op ?_
 refine a_call [] true (make_good Γ ns hn) ?_
 simp only [hs]
 refine a_op ?_
 refine a_op ?_
 refine s_nil (r_false ?_)
 refine q_next ?_
 refine k_seq ?_
 refine k_region rfl ?_
 iterate 6 refine a_op ?_
 refine s_nil (r_false ?_)
 refine q_next ?_
 refine k_seq ?_
 refine k_seq ?_
 refine k_region rfl ?_
 refine a_op ?_
 refine s_nil (r_false ?_)
 refine q_next ?_
 refine k_block ?_
 refine k_loopF (fun sl L (i : Nat) => ⟨setAll (setBad sl [0, 7, 8, 9, 10, 11, 12, 13, 14, 15, 16, 17, 18, 19, 20, 21, 22, 23, 24, 25, 26, 27, 28, 29, 30, 31, 32, 33, 34, 35, 36, 37, 38, 39, 40]) [(4, .t (num (15 + 32 * (s.seen.length : Int) + (fsz (s.fs.take i) : Int)))), (5, .t (num i))], Go.Ot.look (L)⟩) (fun i => i ≤ s.fs.length) (fun i => s.fs.length - i) (0) (a_le ?_) ?_ ?_
 ·refine le_of [(.r 1 2 0, .r 1 2 0)] ?_ ?_ ?_ <;> simp [-List.map_set, -List.map_replicate, -List.reduceReplicate, -List.map_map, -List.map_drop, -List.map_take, num, bol, txt, w8, w16, w32, w64, lst, cls, rowO, boxO, List.take_of_length_le, Wr.cellsL_len, wA, Wr.k_mk, Wr.n_mk, Wr.s_mk, Wr.l_mk, Wr.cellsL, Wr.z_eq, rnT, ftT, fsz_nil] <;> (try omega)
 ·(first | omega | simp)
 ·intro i hi
  refine a_st ?_
  refine k_seq ?_
  refine k_seq ?_
  refine k_region rfl ?_
  iterate 5 refine a_op ?_
  refine s_nil (r_false ?_)
  refine q_next ?_
  refine a_if (fun hc0 => ?_) (fun hc0 => ?_)
  ·(try simp only [Bool.and_eq_true, Bool.or_eq_true, Bool.or_eq_false_iff, Bool.not_eq_true', Bool.not_eq_false', dec_t, dec_f, Bool.and_eq_false_imp, beq_iff_eq, beq_eq_false_iff_ne, ne_eq] at hc0)
   refine k_skip ?_
   refine q_next ?_
   refine k_seq ?_
   refine k_block ?_
   refine k_region rfl ?_
   iterate 10 refine a_opd ?_
   have hib : i < s.fs.length := by omega
   obtain ⟨f, he⟩ : ∃ f, s.fs.getD i default = f := ⟨_, rfl⟩
   simp only [he]
   have hnx := fsz_next hib he
   have hfp := hft f (by rw [← he, getD_eq hib]; exact List.getElem_mem _)
   have hk40 := ft_txt hfp
   have htk := fsz_tk hft i
   iterate 8 refine a_opd ?_
   simp only [he]
   iterate 3 refine a_opd ?_
   refine s_nil (r_true (by kernel_rfl) ?_)
   refine q_block (q_next ?_)
   refine k_region rfl ?_
   iterate 3 refine a_op ?_
   refine s_nil (r_false ?_)
   refine q_loopF (i + 1) (a_le ?_) ?_ ?_
   ·refine le_of [(.r 1 2 0, .r 1 2 0)] ?_ ?_ ?_ <;> simp [-List.map_set, -List.map_replicate, -List.reduceReplicate, -List.map_map, -List.map_drop, -List.map_take, num, bol, txt, w8, w16, w32, w64, lst, cls, rowO, boxO, List.take_of_length_le, Wr.cellsL_len, wA, Wr.k_mk, Wr.n_mk, Wr.s_mk, Wr.l_mk, Wr.cellsL, Wr.z_eq, rnT, ftT, hnx] <;> (try omega)
   ·(first | omega | (simp_all <;> omega))
   ·(first | omega | (simp only []; omega))
  ·(try simp only [Bool.and_eq_true, Bool.or_eq_true, Bool.or_eq_false_iff, Bool.not_eq_true', Bool.not_eq_false', dec_t, dec_f, Bool.and_eq_false_imp, beq_iff_eq, beq_eq_false_iff_ne, ne_eq] at hc0)
   refine k_exit ?_
   refine q_seq_exit (q_loopF_exit (q_block_exit (q_next ?_)))
   refine k_seq ?_
   refine k_region rfl ?_
   have hil : i = s.fs.length := by omega
   subst hil
   simp only [List.take_length]
   iterate 5 refine a_op ?_
   refine s_nil (r_false ?_)
   refine q_next ?_
   refine k_seq ?_
   refine k_region rfl ?_
   refine a_opd ?_
   refine a_calld [] false (sput_good Γ s (by omega) (by omega)) ?_
   simp only [hP]
   iterate 4 refine a_opd ?_
   refine a_god ?_
   refine a_callgod [] false (sput_good Γ ⟨s.seen, []⟩ (by show s.seen.length ≤ _; omega) (by simp)) ?_ (hv := by (simp (disch := first | omega | (simp only [List.length_drop, List.length_take, List.length_map, List.length_append, List.length_cons, List.length_nil, List.length_replicate, List.length_set] <;> omega) | fail) [-List.map_map, -List.map_drop, -List.map_take, VwL_cons, VwL_nil, Vw_bad, Vw_t, Vw_ptr, Vw_msl, Vw_rop, Vw_agg, Vw_tup, Vw_ifc, VwT_refl, VwL_refl_map, Vw_nilmsl, VwT_msl, VwT_agg, VwT_v, VwT_nil, VwTs_cons, VwTs_nil, VwTs_refl, VwTs_app, List.take_of_length_le, srcL, notIn, ObsVw, SrcOk, pOk, Go.Ot.look, resP, resN, ev, evc, mkS, push_cast, List.take_of_length_le, List.flatMap_nil, List.length_nil] <;> (try omega)))
   simp only [hQ]
   refine a_god ?_
   refine a_god ?_
   refine a_god ?_
   refine a_god ?_
   refine a_god ?_
   refine a_god ?_
   refine a_god ?_
   refine a_opd ?_
   refine a_opd ?_
   refine a_callgod [] false (awake_good Γ hE) ?_
   refine a_opd ?_
   refine a_opd ?_
   refine s_nil (r_true (by kernel_rfl) ?_)
   refine q_next ?_
   refine k_ret ?_
   refine ⟨.inr rfl, a_ret [] (by rw [results4]) ?_ ?_ ?_⟩ <;> simp [-List.map_set, -List.map_replicate, -List.reduceReplicate, -List.map_map, -List.map_drop, -List.map_take, num, bol, txt, w8, w16, w32, w64, lst, cls, rowO, boxO, List.take_of_length_le, Wr.cellsL_len, wA, Wr.k_mk, Wr.n_mk, Wr.s_mk, Wr.l_mk, Wr.cellsL, Wr.z_eq, rnT, ftT]

end Go.Proofs.Tryd
