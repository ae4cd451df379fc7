/- Contracts of this program's functions. -/
import Derived.Test.YtemehffhagfpbaaGreatDoorSMF1
import Derived.Test.YtemehffhagfpbaaGreatDoorSMF2
set_option maxHeartbeats 4000000
set_option maxRecDepth 100000
set_option linter.unusedVariables false
set_option linter.unusedSimpArgs false
namespace Go.Proofs.Tryz
open Go Go.Ot
attribute [local irreducible] wpK wpS seqK blockK loopF regK meetK OpSpec Le rdS lpW rdW got mayS mayW putS putW nb u64 PutW mwB sha rcF hdF hsh RG inF chC fl lkT inR inB ckB
theorem checkR_good (Γ : Gl) (log : List Rc) (hl : log.length ≤ 1000000) (hw : ∀ j, (log.getD j default).wraps.length ≤ 9223372036854775807)  : Go.Ot.Good Γ prog 8 [.t (.sl log.length (log.flatMap rcT))] [] (.t (bol (ckB log))) [] [] := by
 refine a_body F.mix func8 (by rfl) ntmps8 ?_
 refine k_seq ?_
 refine k_region rfl ?_
 refine a_op ?_
 refine s_nil (r_false ?_)
 refine q_next ?_
 refine k_seq ?_
 refine k_seq ?_
 refine k_region rfl ?_
 iterate 3 refine a_op ?_
 refine s_nil (r_false ?_)
 refine q_next ?_
 refine a_if (fun hc0 => ?_) (fun hc0 => ?_)
 ·(try simp only [Bool.and_eq_true, Bool.or_eq_true, Bool.or_eq_false_iff, Bool.not_eq_true', Bool.not_eq_false', dec_t, dec_f, Bool.and_eq_false_imp, beq_iff_eq, beq_eq_false_iff_ne, ne_eq] at hc0)
  have hq := ckB_long (log := log) (by omega)
  refine k_seq ?_
  refine k_region rfl ?_
  refine a_op ?_
  refine s_nil (r_false ?_)
  refine q_next ?_
  refine k_ret ?_
  refine q_seq_ret ?_
  refine ⟨.inr rfl, a_ret [] (by rw [results8]) ?_ ?_ ?_⟩ <;> simp [-List.map_set, -List.map_replicate, -List.reduceReplicate, -List.map_map, -List.map_drop, -List.map_take, num, bol, txt, w8, w16, w32, w64, lst, cls, rowO, boxO, List.take_of_length_le, Wr.cellsL_len, wA, Wr.k_mk, Wr.n_mk, Wr.s_mk, Wr.l_mk, Wr.cellsL, Wr.z_eq, rcT, wpT, hq]
 ·(try simp only [Bool.and_eq_true, Bool.or_eq_true, Bool.or_eq_false_iff, Bool.not_eq_true', Bool.not_eq_false', dec_t, dec_f, Bool.and_eq_false_imp, beq_iff_eq, beq_eq_false_iff_ne, ne_eq] at hc0)
  refine k_skip ?_
  refine q_next ?_
  refine k_seq ?_
  refine k_region rfl ?_
  refine a_op ?_
  refine s_nil (r_false ?_)
  refine q_next ?_
  refine k_seq ?_
  refine k_seq ?_
  refine k_region rfl ?_
  refine a_op ?_
  refine s_nil (r_false ?_)
  refine q_next ?_
  refine k_block ?_
  refine k_loopF (fun sl L (i : Nat) => ⟨setAll (setBad sl [2, 5, 6, 7, 8, 9, 10, 11, 12, 13, 14, 15, 16, 17, 18, 19, 20, 21, 22, 23, 24, 25, 26, 27, 28, 29, 30, 31, 32, 33, 34, 35, 36, 37, 38, 39, 40, 41, 42, 43, 44, 45, 46, 47, 48, 49, 50, 51, 52, 53, 54, 55, 56, 57, 58, 59, 60, 61, 62, 63, 64, 65, 66, 67, 68, 69, 70, 71, 72, 73, 74, 75, 76, 77, 78]) [(3, .t (txt (prevF log i))), (4, .t (num i))], Go.Ot.look (L)⟩) (fun i => i ≤ log.length ∧ ∀ j, j < i → chC log (inF log j) j = 0) (fun i => log.length - i) (0) (a_le ?_) ?_ ?_
  ·refine le_same ?_ ?_ ?_ <;> simp [-List.map_set, -List.map_replicate, -List.reduceReplicate, -List.map_map, -List.map_drop, -List.map_take, num, bol, txt, w8, w16, w32, w64, lst, cls, rowO, boxO, List.take_of_length_le, Wr.cellsL_len, wA, Wr.k_mk, Wr.n_mk, Wr.s_mk, Wr.l_mk, Wr.cellsL, Wr.z_eq, rcT, wpT, prevF]
  ·exact ⟨Nat.zero_le _, fun j hj => by omega⟩
  ·rintro i ⟨hi, hI⟩
   refine a_st ?_
   refine k_seq ?_
   refine k_seq ?_
   refine k_region rfl ?_
   iterate 4 refine a_op ?_
   refine s_nil (r_false ?_)
   refine q_next ?_
   refine a_if (fun hc1 => ?_) (fun hc1 => ?_)
   ·(try simp only [Bool.and_eq_true, Bool.or_eq_true, Bool.or_eq_false_iff, Bool.not_eq_true', Bool.not_eq_false', dec_t, dec_f, Bool.and_eq_false_imp, beq_iff_eq, beq_eq_false_iff_ne, ne_eq] at hc1)
    refine k_skip ?_
    refine q_next ?_
    refine k_seq ?_
    refine k_block ?_
    refine k_seq ?_
    refine k_region rfl ?_
    iterate 4 refine a_op ?_
    obtain ⟨r, he⟩ : ∃ r, log.getD i default = r := ⟨_, rfl⟩
    simp only [he]
    have hwr := hw i
    rw [he] at hwr
    refine a_op ?_
    refine a_op ?_
    refine s_nil (r_false ?_)
    refine q_next ?_
    refine k_seq ?_
    refine k_seq ?_
    refine k_region rfl ?_
    have hAll : (¬ rcP r) ∨ (rcP r ∧ r.seq ≠ i + 1) ∨ (rcP r ∧ r.seq = i + 1 ∧ (r.prev == prevF log i) = false) ∨ (rcP r ∧ r.seq = i + 1 ∧ (r.prev == prevF log i) = true ∧ i = 0 ∧ r.kind ≠ 1) ∨ (rcP r ∧ r.seq = i + 1 ∧ (r.prev == prevF log i) = true ∧ i = 0 ∧ r.kind = 1 ∧ r.dev ≠ 0) ∨ (rcP r ∧ r.seq = i + 1 ∧ (r.prev == prevF log i) = true ∧ i = 0 ∧ r.kind = 1 ∧ r.dev = 0 ∧ (inF log i).contains r.dev = false) ∨ (rcP r ∧ r.seq = i + 1 ∧ (r.prev == prevF log i) = true ∧ i ≠ 0 ∧ r.kind = 1 ∧ (inF log i).contains r.dev = false) ∨ (rcP r ∧ r.seq = i + 1 ∧ (r.prev == prevF log i) = true ∧ i ≠ 0 ∧ r.kind = 1 ∧ (inF log i).contains r.dev = true) ∨ (rcP r ∧ r.seq = i + 1 ∧ (r.prev == prevF log i) = true ∧ i ≠ 0 ∧ r.kind = 2 ∧ (inF log i).contains r.dev = false) ∨ (rcP r ∧ r.seq = i + 1 ∧ (r.prev == prevF log i) = true ∧ i ≠ 0 ∧ r.kind = 2 ∧ (inF log i).contains r.dev = true ∧ r.dev = 0) ∨ (rcP r ∧ r.seq = i + 1 ∧ (r.prev == prevF log i) = true ∧ i ≠ 0 ∧ r.kind = 2 ∧ (inF log i).contains r.dev = true ∧ r.dev ≠ 0) := by
     by_cases g1 : rcP r
     ·have hk := g1.2.2.2.1
      by_cases g2 : r.seq = i + 1
      ·rcases g3 : (r.prev == prevF log i) with _ | _
       ·simp [g1, g2]
       ·by_cases g4 : i = 0
        ·have h0 : (inF log i).contains r.dev = false := by rw [g4, inF_0]; rfl
         by_cases g5 : r.kind = 1 <;> by_cases g6 : r.dev = 0 <;> simp only [g1, g2, g4, g5, g6, true_and, and_true, not_true_eq_false, not_false_eq_true, ne_eq, false_and, and_false, or_false, false_or, or_true, true_or]
         rw [g4, g6] at h0; exact .inr h0
        ·rcases hk with g5 | g5 <;> rcases g7 : (inF log i).contains r.dev with _ | _ <;> by_cases g6 : r.dev = 0 <;> simp [g1, g2, g4, g5, g6]
      ·simp [g1, g2]
     ·simp [g1]
    rcases hAll with g1 | ⟨g1, g2⟩ | ⟨g1, g2, g3⟩ | ⟨g1, g2, g3, g4, g5⟩ | ⟨g1, g2, g3, g4, g5, g6⟩ | ⟨g1, g2, g3, g4, g5, g6, g7⟩ | ⟨g1, g2, g3, g4, g5, g7⟩ | ⟨g1, g2, g3, g4, g5, g7⟩ | ⟨g1, g2, g3, g4, g5, g7⟩ | ⟨g1, g2, g3, g4, g5, g7, g6⟩ | ⟨g1, g2, g3, g4, g5, g7, g6⟩
    ·have hr' : i < log.length := by omega
     have hq : ckB log = false := ck_no hr' he (.inl g1)
     refine a_op ?_
     refine a_call [] false ((by have h := rmayR_good Γ r hwr; rw [rcB_f g1] at h; exact h)) ?_
     refine a_op ?_
     refine a_op ?_
     refine a_no ?_
     refine a_no ?_
     refine a_no ?_
     refine a_no ?_
     refine a_no ?_
     refine a_op ?_
     refine a_op ?_
     refine a_no ?_
     refine a_no ?_
     refine a_no ?_
     refine a_no ?_
     refine a_op ?_
     refine a_op ?_
     refine a_no ?_
     refine a_no ?_
     refine a_no ?_
     refine a_no ?_
     refine a_no ?_
     refine a_no ?_
     refine a_no ?_
     refine a_no ?_
     refine a_no ?_
     refine a_no ?_
     refine a_no ?_
     refine a_no ?_
     refine a_op ?_
     refine s_nil (r_false ?_)
     refine q_next ?_
     refine a_true ?_
     refine k_seq ?_
     refine k_region rfl ?_
     refine a_op ?_
     refine s_nil (r_false ?_)
     refine q_next ?_
     refine k_ret ?_
     refine q_seq_ret (q_block_ret (q_seq_ret (q_loopF_ret (q_block_ret (q_seq_ret ?_)))))
     refine ⟨.inr rfl, a_ret [] (by rw [results8]) ?_ ?_ ?_⟩ <;> simp [-List.map_set, -List.map_replicate, -List.reduceReplicate, -List.map_map, -List.map_drop, -List.map_take, num, bol, txt, w8, w16, w32, w64, lst, cls, rowO, boxO, List.take_of_length_le, Wr.cellsL_len, wA, Wr.k_mk, Wr.n_mk, Wr.s_mk, Wr.l_mk, Wr.cellsL, Wr.z_eq, rcT, wpT, hq]
    ·have hr' : i < log.length := by omega
     have hq : ckB log = false := ck_no hr' he (.inr (.inl (fun h => g2 h.1)))
     refine a_op ?_
     refine a_call [] false ((by have h := rmayR_good Γ r hwr; rw [rcB_t g1] at h; exact h)) ?_
     refine a_op ?_
     refine a_op ?_
     refine a_go ?_
     refine a_go ?_
     refine a_go ?_
     refine a_go ?_
     refine a_go ?_
     refine a_op ?_
     refine a_op ?_
     refine a_no ?_
     refine a_no ?_
     refine a_no ?_
     refine a_no ?_
     refine a_op ?_
     refine a_op ?_
     refine a_no ?_
     refine a_no ?_
     refine a_no ?_
     refine a_no ?_
     refine a_no ?_
     refine a_no ?_
     refine a_no ?_
     refine a_no ?_
     refine a_no ?_
     refine a_no ?_
     refine a_no ?_
     refine a_no ?_
     refine a_op ?_
     refine s_nil (r_false ?_)
     refine q_next ?_
     refine a_true ?_
     refine k_seq ?_
     refine k_region rfl ?_
     refine a_op ?_
     refine s_nil (r_false ?_)
     refine q_next ?_
     refine k_ret ?_
     refine q_seq_ret (q_block_ret (q_seq_ret (q_loopF_ret (q_block_ret (q_seq_ret ?_)))))
     refine ⟨.inr rfl, a_ret [] (by rw [results8]) ?_ ?_ ?_⟩ <;> simp [-List.map_set, -List.map_replicate, -List.reduceReplicate, -List.map_map, -List.map_drop, -List.map_take, num, bol, txt, w8, w16, w32, w64, lst, cls, rowO, boxO, List.take_of_length_le, Wr.cellsL_len, wA, Wr.k_mk, Wr.n_mk, Wr.s_mk, Wr.l_mk, Wr.cellsL, Wr.z_eq, rcT, wpT, hq]
    ·have hr' : i < log.length := by omega
     have hq : ckB log = false := ck_no hr' he (.inr (.inl (fun h => by rw [h.2] at g3; simp at g3)))
     refine a_op ?_
     refine a_call [] false ((by have h := rmayR_good Γ r hwr; rw [rcB_t g1] at h; exact h)) ?_
     refine a_op ?_
     refine a_op ?_
     refine a_go ?_
     refine a_go ?_
     refine a_go ?_
     refine a_go ?_
     refine a_go ?_
     refine a_op ?_
     refine a_op ?_
     refine a_go ?_
     refine a_go ?_
     refine a_go ?_
     refine a_go (hs := by (simp (disch := omega) only [push_cast, reduceCtorEq, g3] <;> rfl)) ?_
     refine a_op ?_
     refine a_op ?_
     refine a_no ?_
     refine a_no ?_
     refine a_no ?_
     refine a_no ?_
     refine a_no ?_
     refine a_no ?_
     refine a_no ?_
     refine a_no ?_
     refine a_no ?_
     refine a_no ?_
     refine a_no ?_
     refine a_no ?_
     refine a_op ?_
     refine s_nil (r_false ?_)
     refine q_next ?_
     refine a_true ?_
     refine k_seq ?_
     refine k_region rfl ?_
     refine a_op ?_
     refine s_nil (r_false ?_)
     refine q_next ?_
     refine k_ret ?_
     refine q_seq_ret (q_block_ret (q_seq_ret (q_loopF_ret (q_block_ret (q_seq_ret ?_)))))
     refine ⟨.inr rfl, a_ret [] (by rw [results8]) ?_ ?_ ?_⟩ <;> simp [-List.map_set, -List.map_replicate, -List.reduceReplicate, -List.map_map, -List.map_drop, -List.map_take, num, bol, txt, w8, w16, w32, w64, lst, cls, rowO, boxO, List.take_of_length_le, Wr.cellsL_len, wA, Wr.k_mk, Wr.n_mk, Wr.s_mk, Wr.l_mk, Wr.cellsL, Wr.z_eq, rcT, wpT, hq]
    ·have hr' : i < log.length := by omega
     have hq : ckB log = false := ck_no hr' he (.inr (.inr (.inl ⟨g4, .inl g5⟩)))
     refine a_op ?_
     refine a_call [] false ((by have h := rmayR_good Γ r hwr; rw [rcB_t g1] at h; exact h)) ?_
     refine a_op ?_
     refine a_op ?_
     refine a_go ?_
     refine a_go ?_
     refine a_go ?_
     refine a_go ?_
     refine a_go ?_
     refine a_op ?_
     refine a_op ?_
     refine a_go ?_
     refine a_go ?_
     refine a_go ?_
     refine a_go (hs := by (simp (disch := omega) only [push_cast, reduceCtorEq, g3] <;> rfl)) ?_
     refine a_op ?_
     refine a_op ?_
     refine a_go ?_
     refine a_go ?_
     refine a_go ?_
     refine a_go ?_
     refine a_go ?_
     refine a_go ?_
     refine a_go ?_
     refine a_no ?_
     refine a_no ?_
     refine a_no ?_
     refine a_go ?_
     refine a_go ?_
     refine a_op ?_
     refine s_nil (r_false ?_)
     refine q_next ?_
     refine a_true ?_
     refine k_seq ?_
     refine k_region rfl ?_
     refine a_op ?_
     refine s_nil (r_false ?_)
     refine q_next ?_
     refine k_ret ?_
     refine q_seq_ret (q_block_ret (q_seq_ret (q_loopF_ret (q_block_ret (q_seq_ret ?_)))))
     refine ⟨.inr rfl, a_ret [] (by rw [results8]) ?_ ?_ ?_⟩ <;> simp [-List.map_set, -List.map_replicate, -List.reduceReplicate, -List.map_map, -List.map_drop, -List.map_take, num, bol, txt, w8, w16, w32, w64, lst, cls, rowO, boxO, List.take_of_length_le, Wr.cellsL_len, wA, Wr.k_mk, Wr.n_mk, Wr.s_mk, Wr.l_mk, Wr.cellsL, Wr.z_eq, rcT, wpT, hq]
    ·have hr' : i < log.length := by omega
     have hq : ckB log = false := ck_no hr' he (.inr (.inr (.inl ⟨g4, .inr g6⟩)))
     refine a_op ?_
     refine a_call [] false ((by have h := rmayR_good Γ r hwr; rw [rcB_t g1] at h; exact h)) ?_
     refine a_op ?_
     refine a_op ?_
     refine a_go ?_
     refine a_go ?_
     refine a_go ?_
     refine a_go ?_
     refine a_go ?_
     refine a_op ?_
     refine a_op ?_
     refine a_go ?_
     refine a_go ?_
     refine a_go ?_
     refine a_go (hs := by (simp (disch := omega) only [push_cast, reduceCtorEq, g3] <;> rfl)) ?_
     refine a_op ?_
     refine a_op ?_
     refine a_go ?_
     refine a_go ?_
     refine a_go ?_
     refine a_go ?_
     refine a_go ?_
     refine a_go ?_
     refine a_go ?_
     refine a_go ?_
     refine a_go ?_
     refine a_go ?_
     refine a_go ?_
     refine a_go ?_
     refine a_op ?_
     refine s_nil (r_false ?_)
     refine q_next ?_
     refine a_true ?_
     refine k_seq ?_
     refine k_region rfl ?_
     refine a_op ?_
     refine s_nil (r_false ?_)
     refine q_next ?_
     refine k_ret ?_
     refine q_seq_ret (q_block_ret (q_seq_ret (q_loopF_ret (q_block_ret (q_seq_ret ?_)))))
     refine ⟨.inr rfl, a_ret [] (by rw [results8]) ?_ ?_ ?_⟩ <;> simp [-List.map_set, -List.map_replicate, -List.reduceReplicate, -List.map_map, -List.map_drop, -List.map_take, num, bol, txt, w8, w16, w32, w64, lst, cls, rowO, boxO, List.take_of_length_le, Wr.cellsL_len, wA, Wr.k_mk, Wr.n_mk, Wr.s_mk, Wr.l_mk, Wr.cellsL, Wr.z_eq, rcT, wpT, hq]
    ·have hr' : i < log.length := by omega
     have g3' : r.prev = prevF log i := by simpa using g3
     have hin : inB (log.take i) i r.dev = false := by rw [inB_eq (by omega) hI g1.2.2.2.2.1]; exact g7
     have hck := ck_nx he g1 g2 g3' (fun h => by
      rcases h with h | h | h
      ·exact h.2.elim (fun h => h g5) (fun h => h g6)
      ·have := h.1; omega
      ·exact h (by rw [g7, g5]; decide))
     refine a_op ?_
     refine a_call [] false ((by have h := rmayR_good Γ r hwr; rw [rcB_t g1] at h; exact h)) ?_
     refine a_op ?_
     refine a_op ?_
     refine a_go ?_
     refine a_go ?_
     refine a_go ?_
     refine a_go ?_
     refine a_go ?_
     refine a_op ?_
     refine a_op ?_
     refine a_go ?_
     refine a_go ?_
     refine a_go ?_
     refine a_go (hs := by (simp (disch := omega) only [push_cast, reduceCtorEq, g3] <;> rfl)) ?_
     refine a_op ?_
     refine a_op ?_
     refine a_go ?_
     refine a_go ?_
     refine a_go ?_
     refine a_go ?_
     refine a_go ?_
     refine a_go ?_
     refine a_go ?_
     refine a_go ?_
     refine a_go ?_
     refine a_go ?_
     refine a_go ?_
     refine a_go ?_
     refine a_op ?_
     refine s_nil (r_false ?_)
     refine q_next ?_
     refine a_false ?_
     refine k_skip ?_
     refine q_next ?_
     refine k_seq ?_
     refine k_region rfl ?_
     have htk := rcs_take (log := log) (i := i) (by omega)
     have hlt : (log.take i).length = i := by rw [List.length_take]; omega
     iterate 6 refine a_opd ?_
     refine a_calld [] false ((by have h := In_good Γ (log.take i) i r.dev (by omega); rw [hin] at h; exact h)) ?_ (hv := by (simp (disch := first | omega | (simp only [List.length_drop, List.length_take, List.length_map, List.length_append, List.length_cons, List.length_nil, List.length_replicate, List.length_set] <;> omega) | fail) [-List.map_map, -List.map_drop, -List.map_take, VwL_cons, VwL_nil, Vw_bad, Vw_t, Vw_ptr, Vw_msl, Vw_rop, Vw_agg, Vw_tup, Vw_ifc, VwT_refl, VwL_refl_map, Vw_nilmsl, VwT_msl, VwT_agg, VwT_v, VwT_nil, VwTs_cons, VwTs_nil, VwTs_refl, VwTs_app, List.take_of_length_le, srcL, notIn, ObsVw, SrcOk, pOk, Go.Ot.look, resP, resN, ev, evc, mkS, push_cast, List.take_of_length_le, htk, hlt, -List.length_flatMap] <;> (try omega)))
     refine a_opd ?_
     refine s_nil (r_true (by kernel_rfl) ?_)
     refine q_next ?_
     refine k_seq ?_
     refine k_seq ?_
     refine k_region rfl ?_
     iterate 4 refine a_op ?_
     refine a_go ?_
     refine a_op ?_
     refine a_op ?_
     refine a_go ?_
     refine a_go ?_
     refine a_go ?_
     refine a_go ?_
     refine a_no ?_
     refine a_no ?_
     refine a_no ?_
     refine a_no ?_
     refine a_no ?_
     refine a_no ?_
     refine a_no ?_
     refine a_go ?_
     refine a_op ?_
     refine s_nil (r_false ?_)
     refine q_next ?_
     refine a_false ?_
     refine k_skip ?_
     refine q_next ?_
     refine k_region rfl ?_
     refine a_op ?_
     refine a_call [] false (hashR_good Γ r hwr) ?_
     refine a_op ?_
     refine s_nil (r_false ?_)
     refine q_block (q_next ?_)
     refine k_region rfl ?_
     iterate 3 refine a_op ?_
     refine s_nil (r_false ?_)
     have hpn := prevF_s he
     refine q_loopF (i + 1) (a_le ?_) ?_ ?_
     ·refine le_same ?_ ?_ ?_ <;> simp [-List.map_set, -List.map_replicate, -List.reduceReplicate, -List.map_map, -List.map_drop, -List.map_take, num, bol, txt, w8, w16, w32, w64, lst, cls, rowO, boxO, List.take_of_length_le, Wr.cellsL_len, wA, Wr.k_mk, Wr.n_mk, Wr.s_mk, Wr.l_mk, Wr.cellsL, Wr.z_eq, rcT, wpT, hpn]
     ·exact ⟨by omega, fun j hj => by rcases (show j = i ∨ j < i by omega) with e | e; (subst e; exact hck); exact hI j e⟩
     ·(first | omega | (simp only []; omega))
    ·have hr' : i < log.length := by omega
     have g3' : r.prev = prevF log i := by simpa using g3
     have hin : inB (log.take i) i r.dev = false := by rw [inB_eq (by omega) hI g1.2.2.2.2.1]; exact g7
     have hck := ck_nx he g1 g2 g3' (fun h => by
      rcases h with h | h | h
      ·exact g4 h.1
      ·have := h.1; omega
      ·exact h (by rw [g7, g5]; decide))
     refine a_op ?_
     refine a_call [] false ((by have h := rmayR_good Γ r hwr; rw [rcB_t g1] at h; exact h)) ?_
     refine a_op ?_
     refine a_op ?_
     refine a_go ?_
     refine a_go ?_
     refine a_go ?_
     refine a_go ?_
     refine a_go ?_
     refine a_op ?_
     refine a_op ?_
     refine a_go ?_
     refine a_go ?_
     refine a_go ?_
     refine a_go (hs := by (simp (disch := omega) only [push_cast, reduceCtorEq, g3] <;> rfl)) ?_
     refine a_op ?_
     refine a_op ?_
     refine a_go ?_
     refine a_go ?_
     refine a_go ?_
     refine a_no ?_
     refine a_no ?_
     refine a_no ?_
     refine a_no ?_
     refine a_no ?_
     refine a_no ?_
     refine a_no ?_
     refine a_no ?_
     refine a_go ?_
     refine a_op ?_
     refine s_nil (r_false ?_)
     refine q_next ?_
     refine a_false ?_
     refine k_skip ?_
     refine q_next ?_
     refine k_seq ?_
     refine k_region rfl ?_
     have htk := rcs_take (log := log) (i := i) (by omega)
     have hlt : (log.take i).length = i := by rw [List.length_take]; omega
     iterate 6 refine a_opd ?_
     refine a_calld [] false ((by have h := In_good Γ (log.take i) i r.dev (by omega); rw [hin] at h; exact h)) ?_ (hv := by (simp (disch := first | omega | (simp only [List.length_drop, List.length_take, List.length_map, List.length_append, List.length_cons, List.length_nil, List.length_replicate, List.length_set] <;> omega) | fail) [-List.map_map, -List.map_drop, -List.map_take, VwL_cons, VwL_nil, Vw_bad, Vw_t, Vw_ptr, Vw_msl, Vw_rop, Vw_agg, Vw_tup, Vw_ifc, VwT_refl, VwL_refl_map, Vw_nilmsl, VwT_msl, VwT_agg, VwT_v, VwT_nil, VwTs_cons, VwTs_nil, VwTs_refl, VwTs_app, List.take_of_length_le, srcL, notIn, ObsVw, SrcOk, pOk, Go.Ot.look, resP, resN, ev, evc, mkS, push_cast, List.take_of_length_le, htk, hlt, -List.length_flatMap] <;> (try omega)))
     refine a_opd ?_
     refine s_nil (r_true (by kernel_rfl) ?_)
     refine q_next ?_
     refine k_seq ?_
     refine k_seq ?_
     refine k_region rfl ?_
     iterate 4 refine a_op ?_
     refine a_go ?_
     refine a_op ?_
     refine a_op ?_
     refine a_go ?_
     refine a_go ?_
     refine a_go ?_
     refine a_go ?_
     refine a_no ?_
     refine a_no ?_
     refine a_no ?_
     refine a_no ?_
     refine a_no ?_
     refine a_no ?_
     refine a_no ?_
     refine a_go ?_
     refine a_op ?_
     refine s_nil (r_false ?_)
     refine q_next ?_
     refine a_false ?_
     refine k_skip ?_
     refine q_next ?_
     refine k_region rfl ?_
     refine a_op ?_
     refine a_call [] false (hashR_good Γ r hwr) ?_
     refine a_op ?_
     refine s_nil (r_false ?_)
     refine q_block (q_next ?_)
     refine k_region rfl ?_
     iterate 3 refine a_op ?_
     refine s_nil (r_false ?_)
     have hpn := prevF_s he
     refine q_loopF (i + 1) (a_le ?_) ?_ ?_
     ·refine le_same ?_ ?_ ?_ <;> simp [-List.map_set, -List.map_replicate, -List.reduceReplicate, -List.map_map, -List.map_drop, -List.map_take, num, bol, txt, w8, w16, w32, w64, lst, cls, rowO, boxO, List.take_of_length_le, Wr.cellsL_len, wA, Wr.k_mk, Wr.n_mk, Wr.s_mk, Wr.l_mk, Wr.cellsL, Wr.z_eq, rcT, wpT, hpn]
     ·exact ⟨by omega, fun j hj => by rcases (show j = i ∨ j < i by omega) with e | e; (subst e; exact hck); exact hI j e⟩
     ·(first | omega | (simp only []; omega))
    ·have hr' : i < log.length := by omega
     have hin : inB (log.take i) i r.dev = true := by rw [inB_eq (by omega) hI g1.2.2.2.2.1]; exact g7
     have hq : ckB log = false := ck_no hr' he (.inr (.inr (.inr (.inr (by rw [g7, g5]; decide)))))
     refine a_op ?_
     refine a_call [] false ((by have h := rmayR_good Γ r hwr; rw [rcB_t g1] at h; exact h)) ?_
     refine a_op ?_
     refine a_op ?_
     refine a_go ?_
     refine a_go ?_
     refine a_go ?_
     refine a_go ?_
     refine a_go ?_
     refine a_op ?_
     refine a_op ?_
     refine a_go ?_
     refine a_go ?_
     refine a_go ?_
     refine a_go (hs := by (simp (disch := omega) only [push_cast, reduceCtorEq, g3] <;> rfl)) ?_
     refine a_op ?_
     refine a_op ?_
     refine a_go ?_
     refine a_go ?_
     refine a_go ?_
     refine a_no ?_
     refine a_no ?_
     refine a_no ?_
     refine a_no ?_
     refine a_no ?_
     refine a_no ?_
     refine a_no ?_
     refine a_no ?_
     refine a_go ?_
     refine a_op ?_
     refine s_nil (r_false ?_)
     refine q_next ?_
     refine a_false ?_
     refine k_skip ?_
     refine q_next ?_
     refine k_seq ?_
     refine k_region rfl ?_
     have htk := rcs_take (log := log) (i := i) (by omega)
     have hlt : (log.take i).length = i := by rw [List.length_take]; omega
     iterate 6 refine a_opd ?_
     refine a_calld [] false ((by have h := In_good Γ (log.take i) i r.dev (by omega); rw [hin] at h; exact h)) ?_ (hv := by (simp (disch := first | omega | (simp only [List.length_drop, List.length_take, List.length_map, List.length_append, List.length_cons, List.length_nil, List.length_replicate, List.length_set] <;> omega) | fail) [-List.map_map, -List.map_drop, -List.map_take, VwL_cons, VwL_nil, Vw_bad, Vw_t, Vw_ptr, Vw_msl, Vw_rop, Vw_agg, Vw_tup, Vw_ifc, VwT_refl, VwL_refl_map, Vw_nilmsl, VwT_msl, VwT_agg, VwT_v, VwT_nil, VwTs_cons, VwTs_nil, VwTs_refl, VwTs_app, List.take_of_length_le, srcL, notIn, ObsVw, SrcOk, pOk, Go.Ot.look, resP, resN, ev, evc, mkS, push_cast, List.take_of_length_le, htk, hlt, -List.length_flatMap] <;> (try omega)))
     refine a_opd ?_
     refine s_nil (r_true (by kernel_rfl) ?_)
     refine q_next ?_
     refine k_seq ?_
     refine k_seq ?_
     refine k_region rfl ?_
     iterate 4 refine a_op ?_
     refine a_go ?_
     refine a_op ?_
     refine a_op ?_
     refine a_no ?_
     refine a_no ?_
     refine a_no ?_
     refine a_no ?_
     refine a_no ?_
     refine a_no ?_
     refine a_no ?_
     refine a_no ?_
     refine a_no ?_
     refine a_no ?_
     refine a_no ?_
     refine a_no ?_
     refine a_op ?_
     refine s_nil (r_false ?_)
     refine q_next ?_
     refine a_true ?_
     refine k_seq ?_
     refine k_region rfl ?_
     refine a_op ?_
     refine s_nil (r_false ?_)
     refine q_next ?_
     refine k_ret ?_
     refine q_seq_ret (q_block_ret (q_seq_ret (q_loopF_ret (q_block_ret (q_seq_ret ?_)))))
     refine ⟨.inr rfl, a_ret [] (by rw [results8]) ?_ ?_ ?_⟩ <;> simp [-List.map_set, -List.map_replicate, -List.reduceReplicate, -List.map_map, -List.map_drop, -List.map_take, num, bol, txt, w8, w16, w32, w64, lst, cls, rowO, boxO, List.take_of_length_le, Wr.cellsL_len, wA, Wr.k_mk, Wr.n_mk, Wr.s_mk, Wr.l_mk, Wr.cellsL, Wr.z_eq, rcT, wpT, hq]
    ·have hr' : i < log.length := by omega
     have hin : inB (log.take i) i r.dev = false := by rw [inB_eq (by omega) hI g1.2.2.2.2.1]; exact g7
     have hq : ckB log = false := ck_no hr' he (.inr (.inr (.inr (.inr (by rw [g7, g5]; decide)))))
     refine a_op ?_
     refine a_call [] false ((by have h := rmayR_good Γ r hwr; rw [rcB_t g1] at h; exact h)) ?_
     refine a_op ?_
     refine a_op ?_
     refine a_go ?_
     refine a_go ?_
     refine a_go ?_
     refine a_go ?_
     refine a_go ?_
     refine a_op ?_
     refine a_op ?_
     refine a_go ?_
     refine a_go ?_
     refine a_go ?_
     refine a_go (hs := by (simp (disch := omega) only [push_cast, reduceCtorEq, g3] <;> rfl)) ?_
     refine a_op ?_
     refine a_op ?_
     refine a_go ?_
     refine a_go ?_
     refine a_go ?_
     refine a_no ?_
     refine a_no ?_
     refine a_no ?_
     refine a_no ?_
     refine a_no ?_
     refine a_no ?_
     refine a_no ?_
     refine a_no ?_
     refine a_go ?_
     refine a_op ?_
     refine s_nil (r_false ?_)
     refine q_next ?_
     refine a_false ?_
     refine k_skip ?_
     refine q_next ?_
     refine k_seq ?_
     refine k_region rfl ?_
     have htk := rcs_take (log := log) (i := i) (by omega)
     have hlt : (log.take i).length = i := by rw [List.length_take]; omega
     iterate 6 refine a_opd ?_
     refine a_calld [] false ((by have h := In_good Γ (log.take i) i r.dev (by omega); rw [hin] at h; exact h)) ?_ (hv := by (simp (disch := first | omega | (simp only [List.length_drop, List.length_take, List.length_map, List.length_append, List.length_cons, List.length_nil, List.length_replicate, List.length_set] <;> omega) | fail) [-List.map_map, -List.map_drop, -List.map_take, VwL_cons, VwL_nil, Vw_bad, Vw_t, Vw_ptr, Vw_msl, Vw_rop, Vw_agg, Vw_tup, Vw_ifc, VwT_refl, VwL_refl_map, Vw_nilmsl, VwT_msl, VwT_agg, VwT_v, VwT_nil, VwTs_cons, VwTs_nil, VwTs_refl, VwTs_app, List.take_of_length_le, srcL, notIn, ObsVw, SrcOk, pOk, Go.Ot.look, resP, resN, ev, evc, mkS, push_cast, List.take_of_length_le, htk, hlt, -List.length_flatMap] <;> (try omega)))
     refine a_opd ?_
     refine s_nil (r_true (by kernel_rfl) ?_)
     refine q_next ?_
     refine k_seq ?_
     refine k_seq ?_
     refine k_region rfl ?_
     iterate 4 refine a_op ?_
     refine a_no ?_
     refine a_op ?_
     refine a_op ?_
     refine a_go ?_
     refine a_go ?_
     refine a_go ?_
     refine a_go ?_
     refine a_go ?_
     refine a_go ?_
     refine a_go ?_
     refine a_no ?_
     refine a_no ?_
     refine a_no ?_
     refine a_go ?_
     refine a_go ?_
     refine a_op ?_
     refine s_nil (r_false ?_)
     refine q_next ?_
     refine a_true ?_
     refine k_seq ?_
     refine k_region rfl ?_
     refine a_op ?_
     refine s_nil (r_false ?_)
     refine q_next ?_
     refine k_ret ?_
     refine q_seq_ret (q_block_ret (q_seq_ret (q_loopF_ret (q_block_ret (q_seq_ret ?_)))))
     refine ⟨.inr rfl, a_ret [] (by rw [results8]) ?_ ?_ ?_⟩ <;> simp [-List.map_set, -List.map_replicate, -List.reduceReplicate, -List.map_map, -List.map_drop, -List.map_take, num, bol, txt, w8, w16, w32, w64, lst, cls, rowO, boxO, List.take_of_length_le, Wr.cellsL_len, wA, Wr.k_mk, Wr.n_mk, Wr.s_mk, Wr.l_mk, Wr.cellsL, Wr.z_eq, rcT, wpT, hq]
    ·have hr' : i < log.length := by omega
     have hin : inB (log.take i) i r.dev = true := by rw [inB_eq (by omega) hI g1.2.2.2.2.1]; exact g7
     have hq : ckB log = false := ck_no hr' he (.inr (.inr (.inr (.inl ⟨g5, g6⟩))))
     refine a_op ?_
     refine a_call [] false ((by have h := rmayR_good Γ r hwr; rw [rcB_t g1] at h; exact h)) ?_
     refine a_op ?_
     refine a_op ?_
     refine a_go ?_
     refine a_go ?_
     refine a_go ?_
     refine a_go ?_
     refine a_go ?_
     refine a_op ?_
     refine a_op ?_
     refine a_go ?_
     refine a_go ?_
     refine a_go ?_
     refine a_go (hs := by (simp (disch := omega) only [push_cast, reduceCtorEq, g3] <;> rfl)) ?_
     refine a_op ?_
     refine a_op ?_
     refine a_go ?_
     refine a_go ?_
     refine a_go ?_
     refine a_no ?_
     refine a_no ?_
     refine a_no ?_
     refine a_no ?_
     refine a_no ?_
     refine a_no ?_
     refine a_no ?_
     refine a_no ?_
     refine a_go ?_
     refine a_op ?_
     refine s_nil (r_false ?_)
     refine q_next ?_
     refine a_false ?_
     refine k_skip ?_
     refine q_next ?_
     refine k_seq ?_
     refine k_region rfl ?_
     have htk := rcs_take (log := log) (i := i) (by omega)
     have hlt : (log.take i).length = i := by rw [List.length_take]; omega
     iterate 6 refine a_opd ?_
     refine a_calld [] false ((by have h := In_good Γ (log.take i) i r.dev (by omega); rw [hin] at h; exact h)) ?_ (hv := by (simp (disch := first | omega | (simp only [List.length_drop, List.length_take, List.length_map, List.length_append, List.length_cons, List.length_nil, List.length_replicate, List.length_set] <;> omega) | fail) [-List.map_map, -List.map_drop, -List.map_take, VwL_cons, VwL_nil, Vw_bad, Vw_t, Vw_ptr, Vw_msl, Vw_rop, Vw_agg, Vw_tup, Vw_ifc, VwT_refl, VwL_refl_map, Vw_nilmsl, VwT_msl, VwT_agg, VwT_v, VwT_nil, VwTs_cons, VwTs_nil, VwTs_refl, VwTs_app, List.take_of_length_le, srcL, notIn, ObsVw, SrcOk, pOk, Go.Ot.look, resP, resN, ev, evc, mkS, push_cast, List.take_of_length_le, htk, hlt, -List.length_flatMap] <;> (try omega)))
     refine a_opd ?_
     refine s_nil (r_true (by kernel_rfl) ?_)
     refine q_next ?_
     refine k_seq ?_
     refine k_seq ?_
     refine k_region rfl ?_
     iterate 4 refine a_op ?_
     refine a_no ?_
     refine a_op ?_
     refine a_op ?_
     refine a_go ?_
     refine a_go ?_
     refine a_go ?_
     refine a_go ?_
     refine a_go ?_
     refine a_go ?_
     refine a_go ?_
     refine a_go ?_
     refine a_go ?_
     refine a_go ?_
     refine a_go ?_
     refine a_go ?_
     refine a_op ?_
     refine s_nil (r_false ?_)
     refine q_next ?_
     refine a_true ?_
     refine k_seq ?_
     refine k_region rfl ?_
     refine a_op ?_
     refine s_nil (r_false ?_)
     refine q_next ?_
     refine k_ret ?_
     refine q_seq_ret (q_block_ret (q_seq_ret (q_loopF_ret (q_block_ret (q_seq_ret ?_)))))
     refine ⟨.inr rfl, a_ret [] (by rw [results8]) ?_ ?_ ?_⟩ <;> simp [-List.map_set, -List.map_replicate, -List.reduceReplicate, -List.map_map, -List.map_drop, -List.map_take, num, bol, txt, w8, w16, w32, w64, lst, cls, rowO, boxO, List.take_of_length_le, Wr.cellsL_len, wA, Wr.k_mk, Wr.n_mk, Wr.s_mk, Wr.l_mk, Wr.cellsL, Wr.z_eq, rcT, wpT, hq]
    ·have hr' : i < log.length := by omega
     have g3' : r.prev = prevF log i := by simpa using g3
     have hin : inB (log.take i) i r.dev = true := by rw [inB_eq (by omega) hI g1.2.2.2.2.1]; exact g7
     have hck := ck_nx he g1 g2 g3' (fun h => by
      rcases h with h | h | h
      ·exact g4 h.1
      ·exact g6 h.2
      ·exact h (by rw [g7, g5]; decide))
     refine a_op ?_
     refine a_call [] false ((by have h := rmayR_good Γ r hwr; rw [rcB_t g1] at h; exact h)) ?_
     refine a_op ?_
     refine a_op ?_
     refine a_go ?_
     refine a_go ?_
     refine a_go ?_
     refine a_go ?_
     refine a_go ?_
     refine a_op ?_
     refine a_op ?_
     refine a_go ?_
     refine a_go ?_
     refine a_go ?_
     refine a_go (hs := by (simp (disch := omega) only [push_cast, reduceCtorEq, g3] <;> rfl)) ?_
     refine a_op ?_
     refine a_op ?_
     refine a_go ?_
     refine a_go ?_
     refine a_go ?_
     refine a_no ?_
     refine a_no ?_
     refine a_no ?_
     refine a_no ?_
     refine a_no ?_
     refine a_no ?_
     refine a_no ?_
     refine a_no ?_
     refine a_go ?_
     refine a_op ?_
     refine s_nil (r_false ?_)
     refine q_next ?_
     refine a_false ?_
     refine k_skip ?_
     refine q_next ?_
     refine k_seq ?_
     refine k_region rfl ?_
     have htk := rcs_take (log := log) (i := i) (by omega)
     have hlt : (log.take i).length = i := by rw [List.length_take]; omega
     iterate 6 refine a_opd ?_
     refine a_calld [] false ((by have h := In_good Γ (log.take i) i r.dev (by omega); rw [hin] at h; exact h)) ?_ (hv := by (simp (disch := first | omega | (simp only [List.length_drop, List.length_take, List.length_map, List.length_append, List.length_cons, List.length_nil, List.length_replicate, List.length_set] <;> omega) | fail) [-List.map_map, -List.map_drop, -List.map_take, VwL_cons, VwL_nil, Vw_bad, Vw_t, Vw_ptr, Vw_msl, Vw_rop, Vw_agg, Vw_tup, Vw_ifc, VwT_refl, VwL_refl_map, Vw_nilmsl, VwT_msl, VwT_agg, VwT_v, VwT_nil, VwTs_cons, VwTs_nil, VwTs_refl, VwTs_app, List.take_of_length_le, srcL, notIn, ObsVw, SrcOk, pOk, Go.Ot.look, resP, resN, ev, evc, mkS, push_cast, List.take_of_length_le, htk, hlt, -List.length_flatMap] <;> (try omega)))
     refine a_opd ?_
     refine s_nil (r_true (by kernel_rfl) ?_)
     refine q_next ?_
     refine k_seq ?_
     refine k_seq ?_
     refine k_region rfl ?_
     iterate 4 refine a_op ?_
     refine a_no ?_
     refine a_op ?_
     refine a_op ?_
     refine a_go ?_
     refine a_go ?_
     refine a_go ?_
     refine a_go ?_
     refine a_go ?_
     refine a_go ?_
     refine a_go ?_
     refine a_go ?_
     refine a_go ?_
     refine a_go ?_
     refine a_go ?_
     refine a_go ?_
     refine a_op ?_
     refine s_nil (r_false ?_)
     refine q_next ?_
     refine a_false ?_
     refine k_skip ?_
     refine q_next ?_
     refine k_region rfl ?_
     refine a_op ?_
     refine a_call [] false (hashR_good Γ r hwr) ?_
     refine a_op ?_
     refine s_nil (r_false ?_)
     refine q_block (q_next ?_)
     refine k_region rfl ?_
     iterate 3 refine a_op ?_
     refine s_nil (r_false ?_)
     have hpn := prevF_s he
     refine q_loopF (i + 1) (a_le ?_) ?_ ?_
     ·refine le_same ?_ ?_ ?_ <;> simp [-List.map_set, -List.map_replicate, -List.reduceReplicate, -List.map_map, -List.map_drop, -List.map_take, num, bol, txt, w8, w16, w32, w64, lst, cls, rowO, boxO, List.take_of_length_le, Wr.cellsL_len, wA, Wr.k_mk, Wr.n_mk, Wr.s_mk, Wr.l_mk, Wr.cellsL, Wr.z_eq, rcT, wpT, hpn]
     ·exact ⟨by omega, fun j hj => by rcases (show j = i ∨ j < i by omega) with e | e; (subst e; exact hck); exact hI j e⟩
     ·(first | omega | (simp only []; omega))
   ·(try simp only [Bool.and_eq_true, Bool.or_eq_true, Bool.or_eq_false_iff, Bool.not_eq_true', Bool.not_eq_false', dec_t, dec_f, Bool.and_eq_false_imp, beq_iff_eq, beq_eq_false_iff_ne, ne_eq] at hc1)
    refine k_exit ?_
    refine q_seq_exit (q_loopF_exit (q_block_exit (q_next ?_)))
    refine k_seq ?_
    refine k_region rfl ?_
    have hq := ckB_yes (log := log) (by omega) (fun j hj => hI j (by omega))
    refine a_op ?_
    refine s_nil (r_false ?_)
    refine q_next ?_
    refine k_ret ?_
    refine ⟨.inr rfl, a_ret [] (by rw [results8]) ?_ ?_ ?_⟩ <;> simp [-List.map_set, -List.map_replicate, -List.reduceReplicate, -List.map_map, -List.map_drop, -List.map_take, num, bol, txt, w8, w16, w32, w64, lst, cls, rowO, boxO, List.take_of_length_le, Wr.cellsL_len, wA, Wr.k_mk, Wr.n_mk, Wr.s_mk, Wr.l_mk, Wr.cellsL, Wr.z_eq, rcT, wpT, hq]

end Go.Proofs.Tryz
