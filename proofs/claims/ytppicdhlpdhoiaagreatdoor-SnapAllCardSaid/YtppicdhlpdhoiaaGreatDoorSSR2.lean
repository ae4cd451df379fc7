/- Contracts of this program's functions. -/
import Derived.Test.YtppicdhlpdhoiaaGreatDoorSSR1
import Derived.Test.YtppicdhlpdhoiaaGreatDoorSU2
set_option maxHeartbeats 4000000
set_option maxRecDepth 100000
set_option linter.unusedVariables false
set_option linter.unusedSimpArgs false
namespace Go.Proofs.Tryz
open Go Go.Ot
attribute [local irreducible] wpK wpS seqK blockK loopF regK meetK OpSpec Le rdS lpW rdW got mayS mayW putS putW nb u64 PutW stF saB
theorem part_good (Γ : Gl) (w : Wr) (i : Nat) (hl : w.l.length ≤ 1000000) : Go.Ot.Good Γ prog 16 [wA w, .t (num i)] [] (wA (w.l.getD i Wr.z)) [] [] := by
 refine a_body F.mix func16 (by rfl) ntmps16 ?_
 refine k_seq ?_
 refine k_region rfl ?_
 refine a_op ?_
 refine a_op ?_
 refine s_nil (r_false ?_)
 refine q_next ?_
 refine k_seq ?_
 refine k_seq ?_
 refine k_region rfl ?_
 iterate 5 refine a_op ?_
 refine s_nil (r_false ?_)
 refine q_next ?_
 refine a_if (fun hc0 => ?_) (fun hc0 => ?_)
 ·(try simp only [Bool.and_eq_true, Bool.or_eq_true, Bool.or_eq_false_iff, Bool.not_eq_true', Bool.not_eq_false', dec_t, dec_f, Bool.and_eq_false_imp, beq_iff_eq, beq_eq_false_iff_ne, ne_eq] at hc0)
  have hq : w.l.getD i Wr.z = Wr.z := by rw [List.getD_eq_getElem?_getD, List.getElem?_eq_none (by omega)]; rfl
  simp only [hq]
  refine k_seq ?_
  refine k_region rfl ?_
  refine a_op ?_
  refine a_op ?_
  refine s_nil (r_false ?_)
  refine q_next ?_
  refine k_ret ?_
  refine q_seq_ret ?_
  refine ⟨.inr rfl, a_ret [] (by rw [results16]) ?_ ?_ ?_⟩ <;> simp [-List.map_set, -List.map_replicate, -List.reduceReplicate, -List.map_map, -List.map_drop, -List.map_take, num, bol, txt, w8, w16, w32, w64, lst, cls, rowO, boxO, List.take_of_length_le, Wr.cellsL_len, wA, Wr.k_mk, Wr.n_mk, Wr.s_mk, Wr.l_mk, Wr.cellsL, Wr.z_eq, wS]
 ·(try simp only [Bool.and_eq_true, Bool.or_eq_true, Bool.or_eq_false_iff, Bool.not_eq_true', Bool.not_eq_false', dec_t, dec_f, Bool.and_eq_false_imp, beq_iff_eq, beq_eq_false_iff_ne, ne_eq] at hc0)
  have hq : w.l.getD i Wr.z = w.l.getD i default := rfl
  simp only [hq]
  obtain ⟨x, hx⟩ : ∃ x, w.l.getD i default = x := ⟨_, rfl⟩
  refine k_skip ?_
  refine q_next ?_
  refine k_seq ?_
  refine k_region rfl ?_
  iterate 4 refine a_op ?_
  refine a_op (hc := by (rw [List.length_drop, Wr.cellsL_len]; omega)) ?_
  simp only [hx]
  refine a_op ?_
  refine s_nil (r_false ?_)
  refine q_next ?_
  refine k_ret ?_
  refine ⟨.inr rfl, a_ret [] (by rw [results16]) ?_ ?_ ?_⟩ <;> simp [-List.map_set, -List.map_replicate, -List.reduceReplicate, -List.map_map, -List.map_drop, -List.map_take, num, bol, txt, w8, w16, w32, w64, lst, cls, rowO, boxO, List.take_of_length_le, Wr.cellsL_len, wA, Wr.k_mk, Wr.n_mk, Wr.s_mk, Wr.l_mk, Wr.cellsL, Wr.z_eq, wS]

theorem sgetR_no (Γ : Gl) (s : List UInt8) (hs : s.length ≤ 1000000) (hg : got s = none) : Go.Ot.Good Γ prog 7 [.t (txt s)] [] (.agg [.t (.v (.slice none 0 0)), .t (.v (.slice none 0 0)), .t (bol false)]) [] [] := by
 refine a_body F.mix func7 (by rfl) ntmps7 ?_
 refine k_seq ?_
 refine k_region rfl ?_
 refine a_op ?_
 refine s_nil (r_false ?_)
 refine q_next ?_
 refine k_seq ?_
 refine k_region rfl ?_
 refine a_op ?_
 refine a_call [] true ((by have h := GetR_good Γ s hs; rw [hg, gotD_none] at h; exact h)) ?_
 refine a_op ?_
 refine a_op ?_
 refine s_nil (r_false ?_)
 refine q_next ?_
 refine k_seq ?_
 refine k_seq ?_
 refine k_region rfl ?_
 iterate 3 refine a_op ?_
 refine s_nil (r_false ?_)
 refine q_next ?_
 refine a_true ?_
 refine k_seq ?_
 refine k_region rfl ?_
 refine a_op ?_
 refine a_op ?_
 refine s_nil (r_false ?_)
 refine q_next ?_
 refine k_ret ?_
 refine q_seq_ret ?_
 refine ⟨.inr rfl, a_ret [] (by rw [results7]) ?_ ?_ ?_⟩ <;> simp [-List.map_set, -List.map_replicate, -List.reduceReplicate, -List.map_map, -List.map_drop, -List.map_take, num, bol, txt, w8, w16, w32, w64, lst, cls, rowO, boxO, List.take_of_length_le, Wr.cellsL_len, wA, Wr.k_mk, Wr.n_mk, Wr.s_mk, Wr.l_mk, Wr.cellsL, Wr.z_eq, rnT, ftT]

theorem sgetR_some (Γ : Gl) (s : List UInt8) (hs : s.length ≤ 1000000) (W : Wr) (hg : got s = some W) : Go.Ot.Good Γ prog 7 [.t (txt s)] [] ((match GS s with | some x => .agg [.t (.sl x.seen.length (x.seen.flatMap rnT)), .t (.sl x.fs.length (x.fs.flatMap ftT)), .t (bol true)] | none => .agg [.t (.v (.slice none 0 0)), .t (.v (.slice none 0 0)), .t (bol false)])) [] [] := by
 obtain ⟨A, hA⟩ : ∃ a, W.l.getD 0 (Wr.mk 0 0 [] []) = a := ⟨_, rfl⟩
 obtain ⟨B, hB⟩ : ∃ a, W.l.getD 1 (Wr.mk 0 0 [] []) = a := ⟨_, rfl⟩
 have hso : stOf W = ⟨A.l.map rnOf, B.l.map ftOf⟩ := by rw [stOf, show W.l.getD 0 Wr.z = A from hA, show W.l.getD 1 Wr.z = B from hB]
 have hfw : A.l.length ≤ 65536 ∧ B.l.length ≤ 65536 := by have h := stOf_few hg; rw [hso] at h; simpa using h
 have hWl := (may_l (got_get hg).1).1
 refine a_body F.mix func7 (by rfl) ntmps7 ?_
 refine k_seq ?_
 refine k_region rfl ?_
 refine a_op ?_
 refine s_nil (r_false ?_)
 refine q_next ?_
 refine k_seq ?_
 refine k_region rfl ?_
 refine a_op ?_
 refine a_call [] true ((by have h := GetR_good Γ s hs; rw [hg, gotD_some] at h; exact h)) ?_
 refine a_op ?_
 refine a_op ?_
 refine s_nil (r_false ?_)
 refine q_next ?_
 refine k_seq ?_
 refine k_seq ?_
 refine k_region rfl ?_
 iterate 3 refine a_op ?_
 refine s_nil (r_false ?_)
 refine q_next ?_
 refine a_false ?_
 refine k_skip ?_
 refine q_next ?_
 refine k_seq ?_
 refine k_region rfl ?_
 refine a_op ?_
 refine s_nil (r_false ?_)
 refine q_next ?_
 refine k_seq ?_
 refine k_region rfl ?_
 refine a_opd ?_
 refine a_opd ?_
 refine a_calld [] true (part_good Γ W 0 (by omega)) ?_
 simp only [hA]
 refine a_opd ?_
 refine a_opd ?_
 refine a_calld [] true (part_good Γ W 1 (by omega)) ?_
 simp only [hB]
 iterate 4 refine a_opd ?_
 refine s_nil (r_true (by kernel_rfl) ?_)
 refine q_next ?_
 refine k_seq ?_
 refine k_seq ?_
 refine k_region rfl ?_
 refine a_op ?_
 refine s_nil (r_false ?_)
 refine q_next ?_
 refine k_block ?_
 refine k_loopF (fun sl L (i : Nat) => ⟨setAll (setBad sl [3, 8, 11, 12, 13, 14, 15, 16, 17, 18, 19, 20, 21, 22, 23, 24, 25, 26, 27, 28, 29, 30, 31, 32, 33, 34, 35, 36, 37, 38, 39, 40, 41, 42, 43, 44, 45, 46, 47, 48, 49]) [(7, .t (num i))], Go.Ot.look (putL (.r 4 0 0) (boxO 25 [.msl (.n 9) 0 i 3, .t (.v (.slice none 0 0))]) (putL (.n 9) (rowRn ((A.l.take i).map rnOf)) L))⟩) (fun i => i ≤ A.l.length) (fun i => A.l.length - i) (0) (a_le ?_) ?_ ?_
 ·refine le_of [(.r 0 0 0, .r 0 0 0), (.r 1 2 0, .r 1 2 0), (.r 4 0 0, .r 4 0 0), (.r 5 6 0, .r 5 6 0), (.r 5 7 0, .r 5 7 0)] ?_ ?_ ?_ <;> simp [-List.map_set, -List.map_replicate, -List.reduceReplicate, -List.map_map, -List.map_drop, -List.map_take, num, bol, txt, w8, w16, w32, w64, lst, cls, rowO, boxO, List.take_of_length_le, Wr.cellsL_len, wA, Wr.k_mk, Wr.n_mk, Wr.s_mk, Wr.l_mk, Wr.cellsL, Wr.z_eq, rnT, ftT, wS, rowRn] <;> (try omega)
 ·(first | omega | simp)
 ·intro i hi
  refine a_st ?_
  refine k_seq ?_
  refine k_seq ?_
  refine k_region rfl ?_
  iterate 5 refine a_op ?_
  refine s_nil (r_false ?_)
  refine q_next ?_
  refine a_if (fun hc1 => ?_) (fun hc1 => ?_)
  ·(try simp only [Bool.and_eq_true, Bool.or_eq_true, Bool.or_eq_false_iff, Bool.not_eq_true', Bool.not_eq_false', dec_t, dec_f, Bool.and_eq_false_imp, beq_iff_eq, beq_eq_false_iff_ne, ne_eq] at hc1)
   refine k_skip ?_
   refine q_next ?_
   refine k_seq ?_
   refine k_block ?_
   refine k_seq ?_
   refine k_region rfl ?_
   have hAm : A ∈ W.l := by
    rcases Nat.lt_or_ge 0 W.l.length with h | h
    ·rw [← hA, List.getD_eq_getElem?_getD, List.getElem?_eq_getElem h]; exact List.getElem_mem _
    ·rw [← hA, List.getD_eq_getElem?_getD, List.getElem?_eq_none h] at hc1; simp [Wr.z, Wr.l] at hc1; omega
   iterate 4 refine a_op ?_
   refine a_op (hc := by (rw [List.length_drop, Wr.cellsL_len]; omega)) ?_
   obtain ⟨x, hx⟩ : ∃ x, A.l.getD i default = x := ⟨_, rfl⟩
   simp only [hx]
   have hxl := (may_l ((may_l ((may_l (got_get hg).1).2 A hAm)).2 x (by rw [← hx, getD_eq (by omega)]; exact List.getElem_mem _))).1
   refine a_op ?_
   refine a_op ?_
   refine s_nil (r_false ?_)
   refine q_next ?_
   refine g_start (.n 9) [36] [.r 4 0 0] rfl ?_
   refine g_op ?_
   refine g_op ?_
   refine g_op ?_
   refine g_callp [] [] [] true (part_good Γ x 0 (by omega)) ?_
   refine g_op ?_
   refine g_op ?_
   refine g_callp [] [] [] true (part_good Γ x 1 (by omega)) ?_
   refine g_op ?_
   refine g_op ?_
   refine g_callp [] [] [] true (part_good Γ x 2 (by omega)) ?_
   refine g_op ?_
   refine g_op ?_
   refine g_op ?_
   refine g_op ?_
   refine g_op ?_
   refine g_op ?_
   refine g_nil ⟨g_ok (by kernel_rfl) (by kernel_rfl), ?_⟩
   refine q_block (q_next ?_)
   refine k_region rfl ?_
   iterate 3 refine a_op ?_
   refine s_nil (r_false ?_)
   have hnx : (A.l.take (i + 1)).map rnOf = (A.l.take i).map rnOf ++ [rnOf x] := by rw [map_next (by omega), hx]
   refine q_loopF (i + 1) (a_le ?_) ?_ ?_
   ·refine le_of [(.r 0 0 0, .r 0 0 0), (.r 1 2 0, .r 1 2 0), (.r 4 0 0, .r 4 0 0), (.r 5 6 0, .r 5 6 0), (.r 5 7 0, .r 5 7 0), (.n 9, .n 9)] ?_ ?_ ?_ <;> simp [-List.map_set, -List.map_replicate, -List.reduceReplicate, -List.map_map, -List.map_drop, -List.map_take, num, bol, txt, w8, w16, w32, w64, lst, cls, rowO, boxO, List.take_of_length_le, Wr.cellsL_len, wA, Wr.k_mk, Wr.n_mk, Wr.s_mk, Wr.l_mk, Wr.cellsL, Wr.z_eq, rnT, ftT, wS, rowRn, hnx, List.flatMap_append, List.map_append, rnT, rnOf, Wr.z_eq] <;> (try omega)
   ·(first | omega | (simp_all <;> omega))
   ·(first | omega | (simp only []; omega))
  ·(try simp only [Bool.and_eq_true, Bool.or_eq_true, Bool.or_eq_false_iff, Bool.not_eq_true', Bool.not_eq_false', dec_t, dec_f, Bool.and_eq_false_imp, beq_iff_eq, beq_eq_false_iff_ne, ne_eq] at hc1)
   refine k_exit ?_
   refine q_seq_exit (q_loopF_exit (q_block_exit (q_next ?_)))
   refine k_seq ?_
   refine k_seq ?_
   refine k_region rfl ?_
   have hil : i = A.l.length := by omega
   subst hil
   simp only [List.take_length]
   refine a_op ?_
   refine s_nil (r_false ?_)
   refine q_next ?_
   refine k_block ?_
   refine k_loopF (fun sl L (i : Nat) => ⟨setAll (setBad sl [3, 5, 7, 8, 10, 11, 12, 13, 14, 15, 16, 17, 18, 19, 20, 21, 22, 23, 24, 25, 26, 27, 28, 29, 30, 31, 32, 33, 34, 35, 36, 37, 38, 39, 40, 41, 42, 43, 44, 45, 46, 47, 48, 49, 50, 51, 52, 53, 54, 55, 56, 57, 58, 59, 60, 61, 62, 63, 64, 65, 66, 67, 68, 69, 70, 71, 72, 73, 74, 75, 76, 77, 78, 79, 80, 81, 82, 83, 84, 85, 86]) [(9, .t (num i))], Go.Ot.look (putL (.r 4 0 0) (boxO 25 [.msl (.n 9) 0 A.l.length 3, .msl (.n 8) 0 i 6]) (putL (.n 8) (rowFt ((B.l.take i).map ftOf)) L))⟩) (fun i => i ≤ B.l.length) (fun i => B.l.length - i) (0) (a_le ?_) ?_ ?_
   ·refine le_of [(.r 0 0 0, .r 0 0 0), (.r 1 2 0, .r 1 2 0), (.r 4 0 0, .r 4 0 0), (.r 5 6 0, .r 5 6 0), (.r 5 7 0, .r 5 7 0), (.n 9, .n 9)] ?_ ?_ ?_ <;> simp [-List.map_set, -List.map_replicate, -List.reduceReplicate, -List.map_map, -List.map_drop, -List.map_take, num, bol, txt, w8, w16, w32, w64, lst, cls, rowO, boxO, List.take_of_length_le, Wr.cellsL_len, wA, Wr.k_mk, Wr.n_mk, Wr.s_mk, Wr.l_mk, Wr.cellsL, Wr.z_eq, rnT, ftT, wS, rowFt] <;> (try omega)
   ·(first | omega | simp)
   ·intro i hi
    refine a_st ?_
    refine k_seq ?_
    refine k_seq ?_
    refine k_region rfl ?_
    iterate 5 refine a_op ?_
    refine s_nil (r_false ?_)
    refine q_next ?_
    refine a_if (fun hc2 => ?_) (fun hc2 => ?_)
    ·(try simp only [Bool.and_eq_true, Bool.or_eq_true, Bool.or_eq_false_iff, Bool.not_eq_true', Bool.not_eq_false', dec_t, dec_f, Bool.and_eq_false_imp, beq_iff_eq, beq_eq_false_iff_ne, ne_eq] at hc2)
     refine k_skip ?_
     refine q_next ?_
     refine k_seq ?_
     refine k_block ?_
     refine k_seq ?_
     refine k_region rfl ?_
     have hBm : B ∈ W.l := by
      rcases Nat.lt_or_ge 1 W.l.length with h | h
      ·rw [← hB, List.getD_eq_getElem?_getD, List.getElem?_eq_getElem h]; exact List.getElem_mem _
      ·rw [← hB, List.getD_eq_getElem?_getD, List.getElem?_eq_none h] at hc2; simp [Wr.z, Wr.l] at hc2; omega
     iterate 4 refine a_op ?_
     refine a_op (hc := by (rw [List.length_drop, Wr.cellsL_len]; omega)) ?_
     obtain ⟨x, hx⟩ : ∃ x, B.l.getD i default = x := ⟨_, rfl⟩
     simp only [hx]
     have hxl := (may_l ((may_l ((may_l (got_get hg).1).2 B hBm)).2 x (by rw [← hx, getD_eq (by omega)]; exact List.getElem_mem _))).1
     refine a_op ?_
     refine a_op ?_
     refine s_nil (r_false ?_)
     refine q_next ?_
     refine g_start (.n 8) [63] [.r 4 0 0] rfl ?_
     refine g_op ?_
     refine g_op ?_
     refine g_op ?_
     refine g_callp [] [] [] true (part_good Γ x 0 (by omega)) ?_
     refine g_op ?_
     refine g_op ?_
     refine g_callp [] [] [] true (part_good Γ x 1 (by omega)) ?_
     refine g_op ?_
     refine g_op ?_
     refine g_op ?_
     refine g_callp [] [] [] true (part_good Γ x 2 (by omega)) ?_
     refine g_op ?_
     refine g_op ?_
     refine g_callp [] [] [] true (part_good Γ x 3 (by omega)) ?_
     refine g_op ?_
     refine g_op ?_
     refine g_callp [] [] [] true (part_good Γ x 4 (by omega)) ?_
     refine g_op ?_
     refine g_op ?_
     refine g_callp [] [] [] true (part_good Γ x 5 (by omega)) ?_
     refine g_op ?_
     refine g_op ?_
     refine g_op ?_
     refine g_op (hs := by (simp (maxSteps := 4000000) (disch := first | omega | (simp only [List.length_drop, List.length_take, List.length_map, List.length_append, List.length_cons, List.length_nil, List.length_replicate, List.length_set] <;> omega) | (simp only [push_cast] <;> omega) | fail) only [push_cast, reduceCtorEq, Nat.reduceAdd, Nat.reduceSub, Nat.reduceMul, Nat.reduceEqDiff, Nat.reduceLT, Nat.reduceLeDiff, Nat.reduceMod, Nat.reduceDiv, Int.reduceLE, Int.reduceLT, Int.reduceEq, Int.reduceToNat, Int.reduceAdd, Int.reduceSub, Int.reduceMul, Int.reduceNeg, push_cast] <;> rfl)) ?_
     refine g_op ?_
     refine g_op ?_
     refine g_nil ⟨g_ok (by kernel_rfl) (by kernel_rfl), ?_⟩
     refine q_block (q_next ?_)
     refine k_region rfl ?_
     iterate 3 refine a_op ?_
     refine s_nil (r_false ?_)
     have hnx : (B.l.take (i + 1)).map ftOf = (B.l.take i).map ftOf ++ [ftOf x] := by rw [map_next (by omega), hx]
     refine q_loopF (i + 1) (a_le ?_) ?_ ?_
     ·refine le_of [(.r 0 0 0, .r 0 0 0), (.r 1 2 0, .r 1 2 0), (.r 4 0 0, .r 4 0 0), (.r 5 6 0, .r 5 6 0), (.r 5 7 0, .r 5 7 0), (.n 9, .n 9), (.n 8, .n 8)] ?_ ?_ ?_ <;> simp [-List.map_set, -List.map_replicate, -List.reduceReplicate, -List.map_map, -List.map_drop, -List.map_take, num, bol, txt, w8, w16, w32, w64, lst, cls, rowO, boxO, List.take_of_length_le, Wr.cellsL_len, wA, Wr.k_mk, Wr.n_mk, Wr.s_mk, Wr.l_mk, Wr.cellsL, Wr.z_eq, rnT, ftT, wS, rowFt, hnx, List.flatMap_append, List.map_append, ftT, ftOf, Wr.z_eq] <;> (try omega)
     ·(first | omega | (simp_all <;> omega))
     ·(first | omega | (simp only []; omega))
    ·(try simp only [Bool.and_eq_true, Bool.or_eq_true, Bool.or_eq_false_iff, Bool.not_eq_true', Bool.not_eq_false', dec_t, dec_f, Bool.and_eq_false_imp, beq_iff_eq, beq_eq_false_iff_ne, ne_eq] at hc2)
     refine k_exit ?_
     refine q_seq_exit (q_loopF_exit (q_block_exit (q_next ?_)))
     refine k_seq ?_
     refine k_seq ?_
     refine k_region rfl ?_
     have hil : i = B.l.length := by omega
     subst hil
     simp only [List.take_length]
     have hal := rn_all (l := A.l.map rnOf) (n := A.l.length) (by simp)
     have hbl := ft_all (l := B.l.map ftOf) (n := B.l.length) (by simp)
     have hse := beq_ne (got_sne hg)
     rcases Classical.em (stF ⟨A.l.map rnOf, B.l.map ftOf⟩ = s) with hbe | hbe
     ·have hq := GS_y hg (by rw [hso]; exact hbe)
      rw [hso] at hq
      have hbq : (stF ⟨A.l.map rnOf, B.l.map ftOf⟩ == s) = true := by simpa using hbe
      refine a_op ?_
      refine a_call [.n 9, .n 8] false (sputR_good Γ ⟨A.l.map rnOf, B.l.map ftOf⟩ (by simp; omega) (by simp; omega)) ?_ (hv := by (simp (disch := first | omega | (simp only [List.length_drop, List.length_take, List.length_map, List.length_append, List.length_cons, List.length_nil, List.length_replicate, List.length_set] <;> omega) | fail) [-List.map_map, -List.map_drop, -List.map_take, VwL_cons, VwL_nil, Vw_bad, Vw_t, Vw_ptr, Vw_msl, Vw_rop, Vw_agg, Vw_tup, Vw_ifc, VwT_refl, VwL_refl_map, Vw_nilmsl, VwT_msl, VwT_agg, VwT_v, VwT_nil, VwTs_cons, VwTs_nil, VwTs_refl, VwTs_app, List.take_of_length_le, srcL, notIn, ObsVw, SrcOk, pOk, Go.Ot.look, resP, resN, ev, evc, mkS, push_cast, List.take_of_length_le, hal, hbl, List.length_map, rns_len, fts_len, -List.length_flatMap] <;> (try omega)))
      refine a_op ?_
      refine a_op (hs := by (simp (disch := first | omega | (simp only [List.length_drop, List.length_take, List.length_map, List.length_append, List.length_cons, List.length_nil, List.length_replicate, List.length_set] <;> omega) | (simp only [push_cast] <;> omega) | fail) only [push_cast, reduceCtorEq, Nat.reduceAdd, Nat.reduceSub, Nat.reduceMul, Nat.reduceEqDiff, Nat.reduceLT, Nat.reduceLeDiff, Nat.reduceMod, Nat.reduceDiv, Int.reduceLE, Int.reduceLT, Int.reduceEq, Int.reduceToNat, Int.reduceAdd, Int.reduceSub, Int.reduceMul, Int.reduceNeg, hbq] <;> rfl)) ?_
      refine a_op ?_
      refine a_go ?_
      refine a_go (hs := by (simp (disch := first | omega | (simp only [List.length_drop, List.length_take, List.length_map, List.length_append, List.length_cons, List.length_nil, List.length_replicate, List.length_set] <;> omega) | (simp only [push_cast] <;> omega) | fail) only [push_cast, reduceCtorEq, Nat.reduceAdd, Nat.reduceSub, Nat.reduceMul, Nat.reduceEqDiff, Nat.reduceLT, Nat.reduceLeDiff, Nat.reduceMod, Nat.reduceDiv, Int.reduceLE, Int.reduceLT, Int.reduceEq, Int.reduceToNat, Int.reduceAdd, Int.reduceSub, Int.reduceMul, Int.reduceNeg, hse] <;> rfl)) ?_
      refine a_op ?_
      refine s_nil (r_false ?_)
      refine q_next ?_
      refine a_false ?_
      refine k_skip ?_
      refine q_next ?_
      refine k_seq ?_
      refine k_region rfl ?_
      iterate 3 refine a_op ?_
      refine s_nil (r_false ?_)
      refine q_next ?_
      refine k_ret ?_
      refine ⟨.inr rfl, a_ret [] (by rw [results7]) ?_ ?_ ?_⟩ <;> simp [-List.map_set, -List.map_replicate, -List.reduceReplicate, -List.map_map, -List.map_drop, -List.map_take, num, bol, txt, w8, w16, w32, w64, lst, cls, rowO, boxO, List.take_of_length_le, Wr.cellsL_len, wA, Wr.k_mk, Wr.n_mk, Wr.s_mk, Wr.l_mk, Wr.cellsL, Wr.z_eq, rnT, ftT, wS, hq, hal, hbl, rns_len, fts_len, -List.length_flatMap]
     ·have hq := GS_n hg (by rw [hso]; exact hbe)
      have hbq : (stF ⟨A.l.map rnOf, B.l.map ftOf⟩ == s) = false := by simpa using hbe
      refine a_op ?_
      refine a_call [.n 9, .n 8] false (sputR_good Γ ⟨A.l.map rnOf, B.l.map ftOf⟩ (by simp; omega) (by simp; omega)) ?_ (hv := by (simp (disch := first | omega | (simp only [List.length_drop, List.length_take, List.length_map, List.length_append, List.length_cons, List.length_nil, List.length_replicate, List.length_set] <;> omega) | fail) [-List.map_map, -List.map_drop, -List.map_take, VwL_cons, VwL_nil, Vw_bad, Vw_t, Vw_ptr, Vw_msl, Vw_rop, Vw_agg, Vw_tup, Vw_ifc, VwT_refl, VwL_refl_map, Vw_nilmsl, VwT_msl, VwT_agg, VwT_v, VwT_nil, VwTs_cons, VwTs_nil, VwTs_refl, VwTs_app, List.take_of_length_le, srcL, notIn, ObsVw, SrcOk, pOk, Go.Ot.look, resP, resN, ev, evc, mkS, push_cast, List.take_of_length_le, hal, hbl, List.length_map, rns_len, fts_len, -List.length_flatMap] <;> (try omega)))
      refine a_op ?_
      refine a_op (hs := by (simp (disch := first | omega | (simp only [List.length_drop, List.length_take, List.length_map, List.length_append, List.length_cons, List.length_nil, List.length_replicate, List.length_set] <;> omega) | (simp only [push_cast] <;> omega) | fail) only [push_cast, reduceCtorEq, Nat.reduceAdd, Nat.reduceSub, Nat.reduceMul, Nat.reduceEqDiff, Nat.reduceLT, Nat.reduceLeDiff, Nat.reduceMod, Nat.reduceDiv, Int.reduceLE, Int.reduceLT, Int.reduceEq, Int.reduceToNat, Int.reduceAdd, Int.reduceSub, Int.reduceMul, Int.reduceNeg, hbq] <;> rfl)) ?_
      refine a_op ?_
      refine a_no ?_
      refine a_no ?_
      refine a_op ?_
      refine s_nil (r_false ?_)
      refine q_next ?_
      refine a_true ?_
      refine k_seq ?_
      refine k_region rfl ?_
      refine a_op ?_
      refine a_op ?_
      refine s_nil (r_false ?_)
      refine q_next ?_
      refine k_ret ?_
      refine q_seq_ret ?_
      refine ⟨.inr rfl, a_ret [] (by rw [results7]) ?_ ?_ ?_⟩ <;> simp [-List.map_set, -List.map_replicate, -List.reduceReplicate, -List.map_map, -List.map_drop, -List.map_take, num, bol, txt, w8, w16, w32, w64, lst, cls, rowO, boxO, List.take_of_length_le, Wr.cellsL_len, wA, Wr.k_mk, Wr.n_mk, Wr.s_mk, Wr.l_mk, Wr.cellsL, Wr.z_eq, rnT, ftT, wS, hq, hal, hbl, rns_len, fts_len, -List.length_flatMap]
theorem sgetR_good (Γ : Gl) (s : List UInt8) (hs : s.length ≤ 1000000) : Go.Ot.Good Γ prog 7 [.t (txt s)] [] (match GS s with | some x => .agg [.t (.sl x.seen.length (x.seen.flatMap rnT)), .t (.sl x.fs.length (x.fs.flatMap ftT)), .t (bol true)] | none => .agg [.t (.v (.slice none 0 0)), .t (.v (.slice none 0 0)), .t (bol false)]) [] [] := by
 rcases hg : got s with _ | W
 ·rw [GS_no hg]; exact sgetR_no Γ s hs hg
 ·exact sgetR_some Γ s hs W hg

end Go.Proofs.Tryz
