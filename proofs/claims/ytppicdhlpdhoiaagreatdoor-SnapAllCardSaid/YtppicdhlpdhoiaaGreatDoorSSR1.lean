/- Contracts of this program's functions. -/
import Derived.Test.YtppicdhlpdhoiaaGreatDoorSSN9
import Derived.Test.YtppicdhlpdhoiaaGreatDoorSSL2
import Derived.Test.YtppicdhlpdhoiaaGreatDoorSU1
import Derived.Test.YtppicdhlpdhoiaaGreatDoorSSL3
set_option maxHeartbeats 4000000
set_option maxRecDepth 100000
set_option linter.unusedVariables false
set_option linter.unusedSimpArgs false
namespace Go.Proofs.Tryz
open Go Go.Ot

def numsW (l : List Int) : List Wr := l.map fun n => .mk 1 n [] []
@[push_cast] theorem numsW_len (l : List Int) : (numsW l).length = l.length := List.length_map _
theorem numsW_next {l : List Int} {i : Nat} (h : i < l.length) : numsW (l.take (i + 1)) = numsW (l.take i) ++ [.mk 1 (l.getD i 0) [] []] := by
 rw [List.take_add_one, List.getElem?_eq_getElem h, numsW, List.map_append, getD0 h]; rfl
theorem numsW_nil : numsW [] = [] := rfl
attribute [local irreducible] wpK wpS seqK blockK loopF regK meetK OpSpec Le rdS lpW rdW got mayS mayW putS putW nb u64 PutW stF saB
theorem RNum_good (Γ : Gl) (n : Int) : Go.Ot.Good Γ prog 25 [.t (num n)] [] (wA (.mk 1 n [] [])) [] [] := by
 refine a_body F.mix func25 (by rfl) ntmps25 ?_
 refine k_seq ?_
 refine k_region rfl ?_
 refine a_op ?_
 refine s_nil (r_false ?_)
 refine q_next ?_
 refine k_seq ?_
 refine k_region rfl ?_
 iterate 3 refine a_op ?_
 refine s_nil (r_false ?_)
 refine q_next ?_
 refine k_ret ?_
 refine ⟨.inr rfl, a_ret [] (by rw [results25]) ?_ ?_ ?_⟩ <;> simp [-List.map_set, -List.map_replicate, -List.reduceReplicate, -List.map_map, -List.map_drop, -List.map_take, num, bol, txt, w8, w16, w32, w64, lst, cls, rowO, boxO, List.take_of_length_le, Wr.cellsL_len, wA, Wr.k_mk, Wr.n_mk, Wr.s_mk, Wr.l_mk, Wr.cellsL, Wr.z_eq]

theorem RText_good (Γ : Gl) (s : List UInt8) : Go.Ot.Good Γ prog 26 [.t (txt s)] [] (wA (.mk 2 0 s [])) [] [] := by
 refine a_body F.mix func26 (by rfl) ntmps26 ?_
 refine k_seq ?_
 refine k_region rfl ?_
 refine a_op ?_
 refine s_nil (r_false ?_)
 refine q_next ?_
 refine k_seq ?_
 refine k_region rfl ?_
 iterate 3 refine a_op ?_
 refine s_nil (r_false ?_)
 refine q_next ?_
 refine k_ret ?_
 refine ⟨.inr rfl, a_ret [] (by rw [results26]) ?_ ?_ ?_⟩ <;> simp [-List.map_set, -List.map_replicate, -List.reduceReplicate, -List.map_map, -List.map_drop, -List.map_take, num, bol, txt, w8, w16, w32, w64, lst, cls, rowO, boxO, List.take_of_length_le, Wr.cellsL_len, wA, Wr.k_mk, Wr.n_mk, Wr.s_mk, Wr.l_mk, Wr.cellsL, Wr.z_eq]

theorem RList_good (Γ : Gl) (l : List Wr) : Go.Ot.Good Γ prog 24 [wS l] [] (wA (.mk 3 0 [] l)) [] [] := by
 refine a_body F.mix func24 (by rfl) ntmps24 ?_
 refine k_seq ?_
 refine k_region rfl ?_
 refine a_op ?_
 refine s_nil (r_false ?_)
 refine q_next ?_
 refine k_seq ?_
 refine k_region rfl ?_
 iterate 3 refine a_op ?_
 refine s_nil (r_false ?_)
 refine q_next ?_
 refine k_ret ?_
 refine ⟨.inr rfl, a_ret [] (by rw [results24]) ?_ ?_ ?_⟩ <;> simp [-List.map_set, -List.map_replicate, -List.reduceReplicate, -List.map_map, -List.map_drop, -List.map_take, num, bol, txt, w8, w16, w32, w64, lst, cls, rowO, boxO, List.take_of_length_le, Wr.cellsL_len, wA, Wr.k_mk, Wr.n_mk, Wr.s_mk, Wr.l_mk, Wr.cellsL, Wr.z_eq, wS]

theorem RNums_good (Γ : Gl) (l : List Int) (hl : l.length ≤ 100000) : Go.Ot.Good Γ prog 23 [.t (lst num l)] [] (wA (.mk 3 0 [] (numsW l))) [] [] := by
 refine a_body F.mix func23 (by rfl) ntmps23 ?_
 refine k_seq ?_
 refine k_region rfl ?_
 refine a_op ?_
 refine s_nil (r_false ?_)
 refine q_next ?_
 refine k_seq ?_
 refine k_region rfl ?_
 refine a_op ?_
 refine s_nil (r_false ?_)
 refine q_next ?_
 refine k_seq ?_
 refine k_seq ?_
 refine k_region rfl ?_
 refine a_op ?_
 refine s_nil (r_false ?_)
 refine q_next ?_
 refine k_block ?_
 refine k_loopF (fun sl L (i : Nat) => ⟨setAll (setBad sl [5, 6, 7, 8, 9, 10, 11, 12, 13, 14, 15, 16, 17, 18]) [(3, .msl (.n 9) 0 i 4), (4, .t (num i))], Go.Ot.look (putL (.n 9) (rowW (numsW (l.take i))) L)⟩) (fun i => i ≤ l.length) (fun i => l.length - i) (0) (a_le ?_) ?_ ?_
 ·refine le_of [(.r 0 0 0, .r 0 0 0)] ?_ ?_ ?_ <;> simp [-List.map_set, -List.map_replicate, -List.reduceReplicate, -List.map_map, -List.map_drop, -List.map_take, num, bol, txt, w8, w16, w32, w64, lst, cls, rowO, boxO, List.take_of_length_le, Wr.cellsL_len, wA, Wr.k_mk, Wr.n_mk, Wr.s_mk, Wr.l_mk, Wr.cellsL, Wr.z_eq, wS, rowW, numsW_nil]
 ·(first | omega | simp)
 ·intro i hi
  refine a_st ?_
  refine k_seq ?_
  refine k_seq ?_
  refine k_region rfl ?_
  iterate 4 refine a_op ?_
  refine s_nil (r_false ?_)
  refine q_next ?_
  refine a_if (fun hc0 => ?_) (fun hc0 => ?_)
  ·(try simp only [Bool.and_eq_true, Bool.or_eq_true, Bool.or_eq_false_iff, Bool.not_eq_true', Bool.not_eq_false', dec_t, dec_f, Bool.and_eq_false_imp, beq_iff_eq, beq_eq_false_iff_ne, ne_eq] at hc0)
   refine k_skip ?_
   refine q_next ?_
   refine k_seq ?_
   refine k_block ?_
   refine k_region rfl ?_
   iterate 5 refine a_op ?_
   obtain ⟨e, he⟩ : ∃ e, l.getD i 0 = e := ⟨_, rfl⟩
   simp only [he]
   refine a_call [] false (RNum_good Γ e) ?_
   iterate 3 refine a_op ?_
   refine s_nil (r_false ?_)
   refine q_block (q_next ?_)
   refine k_region rfl ?_
   iterate 3 refine a_op ?_
   refine s_nil (r_false ?_)
   have hnx := numsW_next (l := l) (i := i) (by omega)
   rw [he] at hnx
   refine q_loopF (i + 1) (a_le ?_) ?_ ?_
   ·refine le_of [(.r 0 0 0, .r 0 0 0), (.n 9, .n 9)] ?_ ?_ ?_ <;> simp [-List.map_set, -List.map_replicate, -List.reduceReplicate, -List.map_map, -List.map_drop, -List.map_take, num, bol, txt, w8, w16, w32, w64, lst, cls, rowO, boxO, List.take_of_length_le, Wr.cellsL_len, wA, Wr.k_mk, Wr.n_mk, Wr.s_mk, Wr.l_mk, Wr.cellsL, Wr.z_eq, wS, rowW, hnx, cells_app, wC, Wr.cells]
   ·(first | omega | (simp_all <;> omega))
   ·(first | omega | (simp only []; omega))
  ·(try simp only [Bool.and_eq_true, Bool.or_eq_true, Bool.or_eq_false_iff, Bool.not_eq_true', Bool.not_eq_false', dec_t, dec_f, Bool.and_eq_false_imp, beq_iff_eq, beq_eq_false_iff_ne, ne_eq] at hc0)
   refine k_exit ?_
   refine q_seq_exit (q_loopF_exit (q_block_exit (q_next ?_)))
   refine k_seq ?_
   refine k_region rfl ?_
   have hil : i = l.length := by omega
   subst hil
   simp only [List.take_length]
   have hz := cells_allZ (l := numsW l) (n := l.length) (numsW_len l)
   refine a_op ?_
   refine a_call [.n 9] true (RList_good Γ (numsW l)) ?_ (hv := by (simp (disch := first | omega | (simp only [List.length_drop, List.length_take, List.length_map, List.length_append, List.length_cons, List.length_nil, List.length_replicate, List.length_set] <;> omega) | fail) [-List.map_map, -List.map_drop, -List.map_take, VwL_cons, VwL_nil, Vw_bad, Vw_t, Vw_ptr, Vw_msl, Vw_rop, Vw_agg, Vw_tup, Vw_ifc, VwT_refl, VwL_refl_map, Vw_nilmsl, VwT_msl, VwT_agg, VwT_v, VwT_nil, VwTs_cons, VwTs_nil, VwTs_refl, VwTs_app, List.take_of_length_le, srcL, notIn, ObsVw, SrcOk, pOk, Go.Ot.look, resP, resN, ev, evc, mkS, push_cast, List.take_of_length_le, hz, numsW_len] <;> (try omega)))
   refine a_op ?_
   refine s_nil (r_false ?_)
   refine q_next ?_
   refine k_ret ?_
   refine ⟨.inr rfl, a_ret [] (by rw [results23]) ?_ ?_ ?_⟩ <;> simp [-List.map_set, -List.map_replicate, -List.reduceReplicate, -List.map_map, -List.map_drop, -List.map_take, num, bol, txt, w8, w16, w32, w64, lst, cls, rowO, boxO, List.take_of_length_le, Wr.cellsL_len, wA, Wr.k_mk, Wr.n_mk, Wr.s_mk, Wr.l_mk, Wr.cellsL, Wr.z_eq, wS, numsW_len]

theorem sputR_good (Γ : Gl) (s : Sa) (hs1 : s.seen.length ≤ 100000) (hs2 : s.fs.length ≤ 9223372036854775807) : Go.Ot.Good Γ prog 9 [.agg [.t (.sl s.seen.length (s.seen.flatMap rnT)), .t (.sl s.fs.length (s.fs.flatMap ftT))]] [] (.t (txt (stF s))) [] [] := by
 refine a_body F.mix func9 (by rfl) ntmps9 ?_
 refine k_seq ?_
 refine k_region rfl ?_
 refine a_op ?_
 refine a_op ?_
 refine s_nil (r_false ?_)
 refine q_next ?_
 refine k_seq ?_
 refine k_seq ?_
 refine k_region rfl ?_
 rcases hp : saB s with _ | _
 ·skip
  refine a_op ?_
  refine a_call [] false ((by have h := sa_mayR Γ s (by omega) hs2; rw [hp] at h; exact h)) ?_
  refine a_op ?_
  refine s_nil (r_false ?_)
  refine q_next ?_
  refine a_true ?_
  refine k_seq ?_
  refine k_region rfl ?_
  refine a_op ?_
  refine s_nil (r_false ?_)
  refine q_next ?_
  refine k_ret ?_
  refine q_seq_ret ?_
  refine ⟨.inr rfl, a_ret [] (by rw [results9]) ?_ ?_ ?_⟩ <;> simp [-List.map_set, -List.map_replicate, -List.reduceReplicate, -List.map_map, -List.map_drop, -List.map_take, num, bol, txt, w8, w16, w32, w64, lst, cls, rowO, boxO, List.take_of_length_le, Wr.cellsL_len, wA, Wr.k_mk, Wr.n_mk, Wr.s_mk, Wr.l_mk, Wr.cellsL, Wr.z_eq, rnT, ftT, stF_f hp]
 ·skip
  refine a_op ?_
  refine a_call [] false ((by have h := sa_mayR Γ s (by omega) hs2; rw [hp] at h; exact h)) ?_
  refine a_op ?_
  refine s_nil (r_false ?_)
  refine q_next ?_
  refine a_false ?_
  refine k_skip ?_
  refine q_next ?_
  refine k_seq ?_
  refine k_region rfl ?_
  have hfw := (saB_q.1 hp).few
  refine a_op ?_
  refine a_op ?_
  refine s_nil (r_false ?_)
  refine q_next ?_
  refine k_seq ?_
  refine k_seq ?_
  refine k_region rfl ?_
  refine a_op ?_
  refine s_nil (r_false ?_)
  refine q_next ?_
  refine k_block ?_
  refine k_loopF (fun sl L (i : Nat) => ⟨setAll (setBad sl [0, 8, 9, 10, 11, 12, 13, 14, 15, 16, 17, 18, 19, 20, 21, 22, 23, 24, 25, 26, 27, 28, 29, 30, 31, 32, 33, 34, 35, 36, 37, 38, 39, 40]) [(3, .msl (.n 9) 0 i 4), (5, .t (num i))], Go.Ot.look (putL (.n 9) (rowW ((s.seen.take i).map rW)) L)⟩) (fun i => i ≤ s.seen.length) (fun i => s.seen.length - i) (0) (a_le ?_) ?_ ?_
  ·refine le_of [(.r 0 0 0, .r 0 0 0)] ?_ ?_ ?_ <;> simp [-List.map_set, -List.map_replicate, -List.reduceReplicate, -List.map_map, -List.map_drop, -List.map_take, num, bol, txt, w8, w16, w32, w64, lst, cls, rowO, boxO, List.take_of_length_le, Wr.cellsL_len, wA, Wr.k_mk, Wr.n_mk, Wr.s_mk, Wr.l_mk, Wr.cellsL, Wr.z_eq, rnT, ftT, rowW]
  ·(first | omega | simp)
  ·intro i hi
   refine a_st ?_
   refine k_seq ?_
   refine k_seq ?_
   refine k_region rfl ?_
   iterate 5 refine a_op ?_
   refine s_nil (r_false ?_)
   refine q_next ?_
   refine a_if (fun hc1 => ?_) (fun hc1 => ?_)
   ·(try simp only [Bool.and_eq_true, Bool.or_eq_true, Bool.or_eq_false_iff, Bool.not_eq_true', Bool.not_eq_false', dec_t, dec_f, Bool.and_eq_false_imp, beq_iff_eq, beq_eq_false_iff_ne, ne_eq] at hc1)
    refine k_skip ?_
    refine q_next ?_
    refine k_seq ?_
    refine k_block ?_
    refine g_start (.n 9) [3, 18] [] rfl ?_
    have hib : i < s.seen.length := by omega
    obtain ⟨e, he⟩ : ∃ e, s.seen.getD i default = e := ⟨_, rfl⟩
    refine g_op ?_
    refine g_op ?_
    refine g_op ?_
    refine g_op ?_
    refine g_op ?_
    refine g_op ?_
    refine g_op ?_
    simp only [he]
    refine g_op ?_
    refine g_op ?_
    refine g_op ?_
    refine g_op ?_
    refine g_op ?_
    refine g_op ?_
    simp only [he]
    refine g_op ?_
    refine g_op ?_
    refine g_op ?_
    refine g_op ?_
    refine g_op ?_
    refine g_op ?_
    simp only [he]
    refine g_op ?_
    refine g_callp [] [.r 7 19 0] [] true (RNums_good Γ [e.dev, e.fr, e.to] (by simp)) ?_
    refine g_op ?_
    refine g_op ?_
    refine g_op ?_
    refine g_nil ⟨g_ok (by kernel_rfl) (by kernel_rfl), ?_⟩
    refine q_block (q_next ?_)
    refine k_region rfl ?_
    iterate 3 refine a_op ?_
    refine s_nil (r_false ?_)
    have hnx : (s.seen.take (i + 1)).map rW = (s.seen.take i).map rW ++ [.mk 3 0 [] (numsW [e.dev, e.fr, e.to])] := by rw [map_next hib, he]; rfl
    refine q_loopF (i + 1) (a_le ?_) ?_ ?_
    ·refine le_of [(.r 0 0 0, .r 0 0 0), (.n 9, .n 9)] ?_ ?_ ?_ <;> simp [-List.map_set, -List.map_replicate, -List.reduceReplicate, -List.map_map, -List.map_drop, -List.map_take, num, bol, txt, w8, w16, w32, w64, lst, cls, rowO, boxO, List.take_of_length_le, Wr.cellsL_len, wA, Wr.k_mk, Wr.n_mk, Wr.s_mk, Wr.l_mk, Wr.cellsL, Wr.z_eq, rnT, ftT, rowW, hnx, cells_app, wC, Wr.cells, numsW_len]
    ·(first | omega | (simp_all <;> omega))
    ·(first | omega | (simp only []; omega))
   ·(try simp only [Bool.and_eq_true, Bool.or_eq_true, Bool.or_eq_false_iff, Bool.not_eq_true', Bool.not_eq_false', dec_t, dec_f, Bool.and_eq_false_imp, beq_iff_eq, beq_eq_false_iff_ne, ne_eq] at hc1)
    refine k_exit ?_
    refine q_seq_exit (q_loopF_exit (q_block_exit (q_next ?_)))
    refine k_seq ?_
    refine k_seq ?_
    refine k_region rfl ?_
    have hil : i = s.seen.length := by omega
    subst hil
    simp only [List.take_length]
    refine a_op ?_
    refine s_nil (r_false ?_)
    refine q_next ?_
    refine k_block ?_
    refine k_loopF (fun sl L (i : Nat) => ⟨setAll (setBad sl [0, 5, 7, 8, 9, 10, 11, 12, 13, 14, 15, 16, 17, 18, 19, 20, 21, 22, 23, 24, 25, 26, 27, 28, 29, 30, 31, 32, 33, 34, 35, 36, 37, 38, 39, 40, 41, 42, 43, 44, 45, 46, 47, 48, 49, 50, 51, 52, 53, 54, 55, 56, 57, 58, 59, 60, 61, 62, 63, 64, 65, 66, 67, 68, 69, 70, 71, 72, 73, 74, 75, 76, 77]) [(4, .msl (.n 8) 0 i 4), (6, .t (num i))], Go.Ot.look (putL (.n 8) (rowW ((s.fs.take i).map fW)) L)⟩) (fun i => i ≤ s.fs.length) (fun i => s.fs.length - i) (0) (a_le ?_) ?_ ?_
    ·refine le_of [(.r 0 0 0, .r 0 0 0), (.n 9, .n 9)] ?_ ?_ ?_ <;> simp [-List.map_set, -List.map_replicate, -List.reduceReplicate, -List.map_map, -List.map_drop, -List.map_take, num, bol, txt, w8, w16, w32, w64, lst, cls, rowO, boxO, List.take_of_length_le, Wr.cellsL_len, wA, Wr.k_mk, Wr.n_mk, Wr.s_mk, Wr.l_mk, Wr.cellsL, Wr.z_eq, rnT, ftT, rowW]
    ·(first | omega | simp)
    ·intro i hi
     refine a_st ?_
     refine k_seq ?_
     refine k_seq ?_
     refine k_region rfl ?_
     iterate 5 refine a_op ?_
     refine s_nil (r_false ?_)
     refine q_next ?_
     refine a_if (fun hc2 => ?_) (fun hc2 => ?_)
     ·(try simp only [Bool.and_eq_true, Bool.or_eq_true, Bool.or_eq_false_iff, Bool.not_eq_true', Bool.not_eq_false', dec_t, dec_f, Bool.and_eq_false_imp, beq_iff_eq, beq_eq_false_iff_ne, ne_eq] at hc2)
      refine k_skip ?_
      refine q_next ?_
      refine k_seq ?_
      refine k_block ?_
      refine k_seq ?_
      refine k_region rfl ?_
      iterate 5 refine a_op ?_
      have hib : i < s.fs.length := by omega
      obtain ⟨e, he⟩ : ∃ e, s.fs.getD i default = e := ⟨_, rfl⟩
      simp only [he]
      refine a_op ?_
      refine a_op ?_
      refine s_nil (r_false ?_)
      refine q_next ?_
      refine g_start (.n 8) [4, 53] [] rfl ?_
      refine g_op ?_
      refine g_op ?_
      refine g_op ?_
      refine g_op ?_
      refine g_callp [] [] [] true (RNum_good Γ e.dev) ?_
      refine g_op ?_
      refine g_op ?_
      refine g_op ?_
      refine g_callp [] [] [] true (RNum_good Γ e.n) ?_
      refine g_op ?_
      refine g_op ?_
      refine g_callp [] [] [] true (RText_good Γ e.key) ?_
      refine g_op ?_
      refine g_op ?_
      refine g_callp [] [] [] true (RNum_good Γ e.kind) ?_
      refine g_op ?_
      refine g_op ?_
      refine g_callp [] [] [] true (RText_good Γ e.item) ?_
      refine g_op ?_
      refine g_op ?_
      refine g_callp [] [] [] true (RNum_good Γ e.m) ?_
      refine g_op ?_
      refine g_callp [] [.r 12 21 0] [] true (RList_good Γ [.mk 1 e.dev [] [], .mk 1 e.n [] [], .mk 2 0 e.key [], .mk 1 e.kind [] [], .mk 2 0 e.item [], .mk 1 e.m [] []]) ?_
      refine g_op ?_
      refine g_op ?_
      refine g_op ?_
      refine g_nil ⟨g_ok (by kernel_rfl) (by kernel_rfl), ?_⟩
      refine q_block (q_next ?_)
      refine k_region rfl ?_
      iterate 3 refine a_op ?_
      refine s_nil (r_false ?_)
      have hnx : (s.fs.take (i + 1)).map fW = (s.fs.take i).map fW ++ [.mk 3 0 [] [.mk 1 e.dev [] [], .mk 1 e.n [] [], .mk 2 0 e.key [], .mk 1 e.kind [] [], .mk 2 0 e.item [], .mk 1 e.m [] []]] := by rw [map_next hib, he]; rfl
      refine q_loopF (i + 1) (a_le ?_) ?_ ?_
      ·refine le_of [(.r 0 0 0, .r 0 0 0), (.n 9, .n 9), (.n 8, .n 8)] ?_ ?_ ?_ <;> simp [-List.map_set, -List.map_replicate, -List.reduceReplicate, -List.map_map, -List.map_drop, -List.map_take, num, bol, txt, w8, w16, w32, w64, lst, cls, rowO, boxO, List.take_of_length_le, Wr.cellsL_len, wA, Wr.k_mk, Wr.n_mk, Wr.s_mk, Wr.l_mk, Wr.cellsL, Wr.z_eq, rnT, ftT, rowW, hnx, cells_app, wC, Wr.cells]
      ·(first | omega | (simp_all <;> omega))
      ·(first | omega | (simp only []; omega))
     ·(try simp only [Bool.and_eq_true, Bool.or_eq_true, Bool.or_eq_false_iff, Bool.not_eq_true', Bool.not_eq_false', dec_t, dec_f, Bool.and_eq_false_imp, beq_iff_eq, beq_eq_false_iff_ne, ne_eq] at hc2)
      refine k_exit ?_
      refine q_seq_exit (q_loopF_exit (q_block_exit (q_next ?_)))
      refine k_seq ?_
      refine k_region rfl ?_
      have hil : i = s.fs.length := by omega
      subst hil
      simp only [List.take_length]
      have hz1 := szL_rW s.seen
      have hz2 := szL_fW s.fs
      have hz3 := cells_allZ (l := s.seen.map rW) (n := s.seen.length) (by simp)
      have hz4 := cells_allZ (l := s.fs.map fW) (n := s.fs.length) (by simp)
      refine a_op ?_
      refine a_call [.n 9] true (RList_good Γ (s.seen.map rW)) ?_ (hv := by (simp (disch := first | omega | (simp only [List.length_drop, List.length_take, List.length_map, List.length_append, List.length_cons, List.length_nil, List.length_replicate, List.length_set] <;> omega) | fail) [-List.map_map, -List.map_drop, -List.map_take, VwL_cons, VwL_nil, Vw_bad, Vw_t, Vw_ptr, Vw_msl, Vw_rop, Vw_agg, Vw_tup, Vw_ifc, VwT_refl, VwL_refl_map, Vw_nilmsl, VwT_msl, VwT_agg, VwT_v, VwT_nil, VwTs_cons, VwTs_nil, VwTs_refl, VwTs_app, List.take_of_length_le, srcL, notIn, ObsVw, SrcOk, pOk, Go.Ot.look, resP, resN, ev, evc, mkS, push_cast, List.take_of_length_le, hz3, List.length_map] <;> (try omega)))
      refine a_op ?_
      refine a_call [.n 8] true (RList_good Γ (s.fs.map fW)) ?_ (hv := by (simp (disch := first | omega | (simp only [List.length_drop, List.length_take, List.length_map, List.length_append, List.length_cons, List.length_nil, List.length_replicate, List.length_set] <;> omega) | fail) [-List.map_map, -List.map_drop, -List.map_take, VwL_cons, VwL_nil, Vw_bad, Vw_t, Vw_ptr, Vw_msl, Vw_rop, Vw_agg, Vw_tup, Vw_ifc, VwT_refl, VwL_refl_map, Vw_nilmsl, VwT_msl, VwT_agg, VwT_v, VwT_nil, VwTs_cons, VwTs_nil, VwTs_refl, VwTs_app, List.take_of_length_le, srcL, notIn, ObsVw, SrcOk, pOk, Go.Ot.look, resP, resN, ev, evc, mkS, push_cast, List.take_of_length_le, hz4, List.length_map] <;> (try omega)))
      refine a_op ?_
      refine a_call [.r 13 4 0] true (RList_good Γ [.mk 3 0 [] (s.seen.map rW), .mk 3 0 [] (s.fs.map fW)]) ?_
      refine a_call [] false (PutR_good Γ (.mk 3 0 [] [.mk 3 0 [] (s.seen.map rW), .mk 3 0 [] (s.fs.map fW)]) (by simp [Wr.szL, Wr.sz]; omega) (fun _ => st_small hp hs1)) ?_
      refine a_op ?_
      refine s_nil (r_false ?_)
      refine q_next ?_
      refine k_ret ?_
      refine ⟨.inr rfl, a_ret [] (by rw [results9]) ?_ ?_ ?_⟩ <;> simp [-List.map_set, -List.map_replicate, -List.reduceReplicate, -List.map_map, -List.map_drop, -List.map_take, num, bol, txt, w8, w16, w32, w64, lst, cls, rowO, boxO, List.take_of_length_le, Wr.cellsL_len, wA, Wr.k_mk, Wr.n_mk, Wr.s_mk, Wr.l_mk, Wr.cellsL, Wr.z_eq, rnT, ftT, stF_t hp, stW]

end Go.Proofs.Tryz
