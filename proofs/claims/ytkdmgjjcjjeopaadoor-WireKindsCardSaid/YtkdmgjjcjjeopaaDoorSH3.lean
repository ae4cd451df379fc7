/- Contracts of this program's functions. -/
import Derived.Test.YtkdmgjjcjjeopaaDoorSH0
import Derived.Test.YtkdmgjjcjjeopaaDoorSL1
set_option maxHeartbeats 4000000
set_option maxRecDepth 100000
set_option linter.unusedVariables false
set_option linter.unusedSimpArgs false
namespace Go.Proofs.Tryd
open Go Go.Ot

theorem got_kind {k : UInt8} {r : List UInt8} (h : k ≠ 1 ∧ k ≠ 2 ∧ k ≠ 3) : got (k :: r) = none := got_3 (by rw [getW_s]; exact gS_o h)
theorem kind_no {n : Int} (h : n ≠ 1 ∧ n ≠ 2 ∧ n ≠ 3) : mayW 6 (.mk n 0 [] []) = false := by rw [mayW_s]; exact mayS_o h
theorem kind_no2 {n : Int} (h : n ≠ 1 ∧ n ≠ 2 ∧ n ≠ 3) : mayW 6 (.mk 3 0 [] [.mk n 0 [] []]) = false := by
  have : mayW 5 (.mk n 0 [] []) = false := by rw [mayW_s]; exact mayS_o h
  rw [mayW_s, mayS_3]; simp [this]
theorem byte4 {w : Nat} {k : UInt8} (h : UInt8.ofInt ((4 : Int) + (w : Int) % 200) = k) : k ≠ 1 ∧ k ≠ 2 ∧ k ≠ 3 := by
  have e : k.toNat = 4 + w % 200 := by
    rw [← h, UInt8.ofInt, UInt8.toNat_ofNat']
    omega
  refine ⟨?_, ?_, ?_⟩ <;> (rintro rfl; simp at e; omega)
attribute [local irreducible] wpK wpS seqK blockK loopF regK meetK OpSpec Le rdS lpW rdW got mayS mayW ixF putS putW nb nbS u64 fmT PutW sameW sameL manyS manyN mfold
theorem kinds0_good (Γ : Gl) (hE : EG Γ) (which : UInt8) (kind : Int) (hw : which.toNat % 7 = 0) : Go.Ot.Good Γ prog 8 [.t (num kind), .t (w8 which)] [] (.t (bol true)) [] [] := by
  refine a_body F.mix func8 (by rfl) ntmps8 ?_
  refine k_seq ?_
  refine k_region rfl ?_
  refine a_op ?_
  refine s_nil (r_false ?_)
  refine q_next ?_
  refine k_seq ?_
  refine k_region rfl ?_
  have hw' : (which.toNat : Int) % 7 = 0 := by omega
  have hw8 := UInt8.toNat_lt which
  obtain ⟨k8, hk8⟩ : ∃ k8 : UInt8, UInt8.ofInt ((4 : Int) + (which.toNat : Int) % 200) = k8 := ⟨_, rfl⟩
  have hb4 := byte4 hk8
  have hm : mayW 6 (.mk 1 0 [120] []) = false := by decide +kernel
  have hm2 : mayW 6 (.mk 3 0 [] [(.mk 1 0 [120] [])]) = false := by decide +kernel
  have hp : PutW (.mk 1 0 [120] []) = [] := PutW_f hm
  refine a_op ?_
  refine a_call [] false (Num_good Γ 1) ?_
  iterate 3 refine a_op ?_
  refine a_call [] false (Num_good Γ 1) ?_
  iterate 8 refine a_op ?_
  refine s_nil (r_false ?_)
  refine q_next ?_
  refine k_seq ?_
  refine k_region rfl ?_
  refine a_op ?_
  refine a_op ?_
  refine a_op (hs := by (simp (disch := first | omega | (simp only [List.length_drop, List.length_take, List.length_map, List.length_append, List.length_cons, List.length_nil, List.length_replicate, List.length_set] <;> omega) | (simp only [push_cast] <;> omega) | fail) only [push_cast, reduceCtorEq, Nat.reduceAdd, Nat.reduceSub, Nat.reduceMul, Nat.reduceEqDiff, Nat.reduceLT, Nat.reduceLeDiff, Nat.reduceMod, Nat.reduceDiv, Int.reduceLE, Int.reduceLT, Int.reduceEq, Int.reduceToNat, Int.reduceAdd, Int.reduceSub, Int.reduceMul, Int.reduceNeg, hw'] <;> rfl)) ?_
  iterate 4 refine a_op ?_
  refine s_nil (r_false ?_)
  refine q_next ?_
  refine k_seq ?_
  refine k_region rfl ?_
  refine a_op ?_
  refine a_op (hs := by (simp (disch := first | omega | (simp only [List.length_drop, List.length_take, List.length_map, List.length_append, List.length_cons, List.length_nil, List.length_replicate, List.length_set] <;> omega) | (simp only [push_cast] <;> omega) | fail) only [push_cast, reduceCtorEq, Nat.reduceAdd, Nat.reduceSub, Nat.reduceMul, Nat.reduceEqDiff, Nat.reduceLT, Nat.reduceLeDiff, Nat.reduceMod, Nat.reduceDiv, Int.reduceLE, Int.reduceLT, Int.reduceEq, Int.reduceToNat, Int.reduceAdd, Int.reduceSub, Int.reduceMul, Int.reduceNeg, hw'] <;> rfl)) ?_
  refine a_op ?_
  refine a_op ?_
  refine a_no ?_
  refine a_no ?_
  refine a_op ?_
  refine a_op ?_
  refine a_no ?_
  refine a_no ?_
  refine a_op ?_
  refine a_op ?_
  refine s_nil (r_false ?_)
  refine q_next ?_
  refine k_seq ?_
  refine k_region rfl ?_
  iterate 4 refine a_op ?_
  refine a_cv8 ?_
  rw [hk8]
  refine a_op ?_
  first | refine a_text ?_ | refine a_texts ?_
  refine a_call [] true ((by have h := Get_good Γ hE (k8 :: [0, 0, 0, 0, 0, 0, 0, 0]) (by simp); rw [got_kind hb4, Option.getD_none, Option.isSome_none] at h; exact h)) ?_
  iterate 6 refine a_op ?_
  refine s_nil (r_false ?_)
  refine q_next ?_
  refine k_seq ?_
  refine k_region rfl ?_
  refine a_op ?_
  refine a_call [] false ((by have h := May_good Γ (.mk 1 0 [120] []); rw [hm] at h; exact h)) ?_
  iterate 3 refine a_op ?_
  refine a_go ?_
  refine a_callgo [] false ((by have h := Put_good Γ (.mk 1 0 [120] []) (fun h => by rw [hm] at h; cases h); rw [hp] at h; exact h)) ?_
  refine a_go ?_
  refine a_go ?_
  refine a_go ?_
  refine a_op ?_
  refine a_op ?_
  refine a_go ?_
  refine a_go ?_
  refine a_op ?_
  refine a_op ?_
  refine a_go ?_
  refine a_go ?_
  refine a_callgo [.r 5 17 0] true (List_good Γ [(.mk 1 0 [120] [])] (by simp [Wr.szL, Wr.sz])) ?_
  refine a_callgo [] false ((by have h := May_good Γ (.mk 3 0 [] [(.mk 1 0 [120] [])]); rw [hm2] at h; exact h)) ?_
  refine a_go ?_
  refine a_go ?_
  refine a_op ?_
  refine a_op ?_
  refine a_callgo [] false (awake_good Γ hE) ?_
  refine a_op ?_
  refine a_op ?_
  refine s_nil (r_false ?_)
  refine q_next ?_
  refine k_ret ?_
  refine ⟨.inr rfl, a_ret [] (by rw [results8]) ?_ ?_ ?_⟩ <;> simp [-List.map_set, -List.map_replicate, -List.reduceReplicate, -List.map_map, -List.map_drop, -List.map_take, num, bol, txt, w8, w16, w32, w64, lst, cls, rowO, boxO, List.take_of_length_le, Wr.cellsL_len, wA, Wr.k_mk, Wr.n_mk, Wr.s_mk, Wr.l_mk, Wr.cellsL, Wr.z_eq]

theorem kinds1_good (Γ : Gl) (hE : EG Γ) (which : UInt8) (kind : Int) (hw : which.toNat % 7 = 1) : Go.Ot.Good Γ prog 8 [.t (num kind), .t (w8 which)] [] (.t (bol true)) [] [] := by
  refine a_body F.mix func8 (by rfl) ntmps8 ?_
  refine k_seq ?_
  refine k_region rfl ?_
  refine a_op ?_
  refine s_nil (r_false ?_)
  refine q_next ?_
  refine k_seq ?_
  refine k_region rfl ?_
  have hw' : (which.toNat : Int) % 7 = 1 := by omega
  have hw8 := UInt8.toNat_lt which
  obtain ⟨k8, hk8⟩ : ∃ k8 : UInt8, UInt8.ofInt ((4 : Int) + (which.toNat : Int) % 200) = k8 := ⟨_, rfl⟩
  have hb4 := byte4 hk8
  have hm : mayW 6 (.mk 1 0 [] [.mk 1 1 [] []]) = false := by decide +kernel
  have hm2 : mayW 6 (.mk 3 0 [] [(.mk 1 0 [] [.mk 1 1 [] []])]) = false := by decide +kernel
  have hp : PutW (.mk 1 0 [] [.mk 1 1 [] []]) = [] := PutW_f hm
  refine a_op ?_
  refine a_call [] false (Num_good Γ 1) ?_
  iterate 3 refine a_op ?_
  refine a_call [] false (Num_good Γ 1) ?_
  iterate 8 refine a_op ?_
  refine s_nil (r_false ?_)
  refine q_next ?_
  refine k_seq ?_
  refine k_region rfl ?_
  refine a_op ?_
  refine a_op ?_
  refine a_op (hs := by (simp (disch := first | omega | (simp only [List.length_drop, List.length_take, List.length_map, List.length_append, List.length_cons, List.length_nil, List.length_replicate, List.length_set] <;> omega) | (simp only [push_cast] <;> omega) | fail) only [push_cast, reduceCtorEq, Nat.reduceAdd, Nat.reduceSub, Nat.reduceMul, Nat.reduceEqDiff, Nat.reduceLT, Nat.reduceLeDiff, Nat.reduceMod, Nat.reduceDiv, Int.reduceLE, Int.reduceLT, Int.reduceEq, Int.reduceToNat, Int.reduceAdd, Int.reduceSub, Int.reduceMul, Int.reduceNeg, hw'] <;> rfl)) ?_
  iterate 4 refine a_op ?_
  refine s_nil (r_false ?_)
  refine q_next ?_
  refine k_seq ?_
  refine k_region rfl ?_
  refine a_op ?_
  refine a_op (hs := by (simp (disch := first | omega | (simp only [List.length_drop, List.length_take, List.length_map, List.length_append, List.length_cons, List.length_nil, List.length_replicate, List.length_set] <;> omega) | (simp only [push_cast] <;> omega) | fail) only [push_cast, reduceCtorEq, Nat.reduceAdd, Nat.reduceSub, Nat.reduceMul, Nat.reduceEqDiff, Nat.reduceLT, Nat.reduceLeDiff, Nat.reduceMod, Nat.reduceDiv, Int.reduceLE, Int.reduceLT, Int.reduceEq, Int.reduceToNat, Int.reduceAdd, Int.reduceSub, Int.reduceMul, Int.reduceNeg, hw'] <;> rfl)) ?_
  refine a_op ?_
  refine a_op ?_
  refine a_no ?_
  refine a_no ?_
  refine a_op ?_
  refine a_op ?_
  refine a_no ?_
  refine a_no ?_
  refine a_op ?_
  refine a_op ?_
  refine s_nil (r_false ?_)
  refine q_next ?_
  refine k_seq ?_
  refine k_region rfl ?_
  iterate 4 refine a_op ?_
  refine a_cv8 ?_
  rw [hk8]
  refine a_op ?_
  first | refine a_text ?_ | refine a_texts ?_
  refine a_call [] true ((by have h := Get_good Γ hE (k8 :: [0, 0, 0, 0, 0, 0, 0, 0]) (by simp); rw [got_kind hb4, Option.getD_none, Option.isSome_none] at h; exact h)) ?_
  iterate 6 refine a_op ?_
  refine s_nil (r_false ?_)
  refine q_next ?_
  refine k_seq ?_
  refine k_region rfl ?_
  refine a_op ?_
  refine a_call [.r 1 2 0] false ((by have h := May_good Γ (.mk 1 0 [] [.mk 1 1 [] []]); rw [hm] at h; exact h)) ?_
  iterate 3 refine a_op ?_
  refine a_go ?_
  refine a_callgo [.r 1 2 0] false ((by have h := Put_good Γ (.mk 1 0 [] [.mk 1 1 [] []]) (fun h => by rw [hm] at h; cases h); rw [hp] at h; exact h)) ?_
  refine a_go ?_
  refine a_go ?_
  refine a_go ?_
  refine a_op ?_
  refine a_op ?_
  refine a_go ?_
  refine a_go ?_
  refine a_op ?_
  refine a_op ?_
  refine a_go ?_
  refine a_go ?_
  refine a_callgo [.r 5 17 0, .r 1 2 0] true (List_good Γ [(.mk 1 0 [] [.mk 1 1 [] []])] (by simp [Wr.szL, Wr.sz])) ?_
  refine a_callgo [] false ((by have h := May_good Γ (.mk 3 0 [] [(.mk 1 0 [] [.mk 1 1 [] []])]); rw [hm2] at h; exact h)) ?_
  refine a_go ?_
  refine a_go ?_
  refine a_op ?_
  refine a_op ?_
  refine a_callgo [] false (awake_good Γ hE) ?_
  refine a_op ?_
  refine a_op ?_
  refine s_nil (r_false ?_)
  refine q_next ?_
  refine k_ret ?_
  refine ⟨.inr rfl, a_ret [] (by rw [results8]) ?_ ?_ ?_⟩ <;> simp [-List.map_set, -List.map_replicate, -List.reduceReplicate, -List.map_map, -List.map_drop, -List.map_take, num, bol, txt, w8, w16, w32, w64, lst, cls, rowO, boxO, List.take_of_length_le, Wr.cellsL_len, wA, Wr.k_mk, Wr.n_mk, Wr.s_mk, Wr.l_mk, Wr.cellsL, Wr.z_eq]

theorem kinds2_good (Γ : Gl) (hE : EG Γ) (which : UInt8) (kind : Int) (hw : which.toNat % 7 = 2) : Go.Ot.Good Γ prog 8 [.t (num kind), .t (w8 which)] [] (.t (bol true)) [] [] := by
  refine a_body F.mix func8 (by rfl) ntmps8 ?_
  refine k_seq ?_
  refine k_region rfl ?_
  refine a_op ?_
  refine s_nil (r_false ?_)
  refine q_next ?_
  refine k_seq ?_
  refine k_region rfl ?_
  have hw' : (which.toNat : Int) % 7 = 2 := by omega
  have hw8 := UInt8.toNat_lt which
  obtain ⟨k8, hk8⟩ : ∃ k8 : UInt8, UInt8.ofInt ((4 : Int) + (which.toNat : Int) % 200) = k8 := ⟨_, rfl⟩
  have hb4 := byte4 hk8
  have hm : mayW 6 (.mk 2 1 [] []) = false := by decide +kernel
  have hm2 : mayW 6 (.mk 3 0 [] [(.mk 2 1 [] [])]) = false := by decide +kernel
  have hp : PutW (.mk 2 1 [] []) = [] := PutW_f hm
  refine a_op ?_
  refine a_call [] false (Num_good Γ 1) ?_
  iterate 3 refine a_op ?_
  refine a_call [] false (Num_good Γ 1) ?_
  iterate 8 refine a_op ?_
  refine s_nil (r_false ?_)
  refine q_next ?_
  refine k_seq ?_
  refine k_region rfl ?_
  refine a_op ?_
  refine a_op ?_
  refine a_op (hs := by (simp (disch := first | omega | (simp only [List.length_drop, List.length_take, List.length_map, List.length_append, List.length_cons, List.length_nil, List.length_replicate, List.length_set] <;> omega) | (simp only [push_cast] <;> omega) | fail) only [push_cast, reduceCtorEq, Nat.reduceAdd, Nat.reduceSub, Nat.reduceMul, Nat.reduceEqDiff, Nat.reduceLT, Nat.reduceLeDiff, Nat.reduceMod, Nat.reduceDiv, Int.reduceLE, Int.reduceLT, Int.reduceEq, Int.reduceToNat, Int.reduceAdd, Int.reduceSub, Int.reduceMul, Int.reduceNeg, hw'] <;> rfl)) ?_
  iterate 4 refine a_op ?_
  refine s_nil (r_false ?_)
  refine q_next ?_
  refine k_seq ?_
  refine k_region rfl ?_
  refine a_op ?_
  refine a_op (hs := by (simp (disch := first | omega | (simp only [List.length_drop, List.length_take, List.length_map, List.length_append, List.length_cons, List.length_nil, List.length_replicate, List.length_set] <;> omega) | (simp only [push_cast] <;> omega) | fail) only [push_cast, reduceCtorEq, Nat.reduceAdd, Nat.reduceSub, Nat.reduceMul, Nat.reduceEqDiff, Nat.reduceLT, Nat.reduceLeDiff, Nat.reduceMod, Nat.reduceDiv, Int.reduceLE, Int.reduceLT, Int.reduceEq, Int.reduceToNat, Int.reduceAdd, Int.reduceSub, Int.reduceMul, Int.reduceNeg, hw'] <;> rfl)) ?_
  refine a_op ?_
  refine a_op ?_
  refine a_no ?_
  refine a_no ?_
  refine a_op ?_
  refine a_op ?_
  refine a_no ?_
  refine a_no ?_
  refine a_op ?_
  refine a_op ?_
  refine s_nil (r_false ?_)
  refine q_next ?_
  refine k_seq ?_
  refine k_region rfl ?_
  iterate 4 refine a_op ?_
  refine a_cv8 ?_
  rw [hk8]
  refine a_op ?_
  first | refine a_text ?_ | refine a_texts ?_
  refine a_call [] true ((by have h := Get_good Γ hE (k8 :: [0, 0, 0, 0, 0, 0, 0, 0]) (by simp); rw [got_kind hb4, Option.getD_none, Option.isSome_none] at h; exact h)) ?_
  iterate 6 refine a_op ?_
  refine s_nil (r_false ?_)
  refine q_next ?_
  refine k_seq ?_
  refine k_region rfl ?_
  refine a_op ?_
  refine a_call [] false ((by have h := May_good Γ (.mk 2 1 [] []); rw [hm] at h; exact h)) ?_
  iterate 3 refine a_op ?_
  refine a_go ?_
  refine a_callgo [] false ((by have h := Put_good Γ (.mk 2 1 [] []) (fun h => by rw [hm] at h; cases h); rw [hp] at h; exact h)) ?_
  refine a_go ?_
  refine a_go ?_
  refine a_go ?_
  refine a_op ?_
  refine a_op ?_
  refine a_go ?_
  refine a_go ?_
  refine a_op ?_
  refine a_op ?_
  refine a_go ?_
  refine a_go ?_
  refine a_callgo [.r 5 17 0] true (List_good Γ [(.mk 2 1 [] [])] (by simp [Wr.szL, Wr.sz])) ?_
  refine a_callgo [] false ((by have h := May_good Γ (.mk 3 0 [] [(.mk 2 1 [] [])]); rw [hm2] at h; exact h)) ?_
  refine a_go ?_
  refine a_go ?_
  refine a_op ?_
  refine a_op ?_
  refine a_callgo [] false (awake_good Γ hE) ?_
  refine a_op ?_
  refine a_op ?_
  refine s_nil (r_false ?_)
  refine q_next ?_
  refine k_ret ?_
  refine ⟨.inr rfl, a_ret [] (by rw [results8]) ?_ ?_ ?_⟩ <;> simp [-List.map_set, -List.map_replicate, -List.reduceReplicate, -List.map_map, -List.map_drop, -List.map_take, num, bol, txt, w8, w16, w32, w64, lst, cls, rowO, boxO, List.take_of_length_le, Wr.cellsL_len, wA, Wr.k_mk, Wr.n_mk, Wr.s_mk, Wr.l_mk, Wr.cellsL, Wr.z_eq]

theorem kinds3_good (Γ : Gl) (hE : EG Γ) (which : UInt8) (kind : Int) (hw : which.toNat % 7 = 3) : Go.Ot.Good Γ prog 8 [.t (num kind), .t (w8 which)] [] (.t (bol true)) [] [] := by
  refine a_body F.mix func8 (by rfl) ntmps8 ?_
  refine k_seq ?_
  refine k_region rfl ?_
  refine a_op ?_
  refine s_nil (r_false ?_)
  refine q_next ?_
  refine k_seq ?_
  refine k_region rfl ?_
  have hw' : (which.toNat : Int) % 7 = 3 := by omega
  have hw8 := UInt8.toNat_lt which
  obtain ⟨k8, hk8⟩ : ∃ k8 : UInt8, UInt8.ofInt ((4 : Int) + (which.toNat : Int) % 200) = k8 := ⟨_, rfl⟩
  have hb4 := byte4 hk8
  have hm : mayW 6 (.mk 2 0 [] [.mk 1 1 [] []]) = false := by decide +kernel
  have hm2 : mayW 6 (.mk 3 0 [] [(.mk 2 0 [] [.mk 1 1 [] []])]) = false := by decide +kernel
  have hp : PutW (.mk 2 0 [] [.mk 1 1 [] []]) = [] := PutW_f hm
  refine a_op ?_
  refine a_call [] false (Num_good Γ 1) ?_
  iterate 3 refine a_op ?_
  refine a_call [] false (Num_good Γ 1) ?_
  iterate 8 refine a_op ?_
  refine s_nil (r_false ?_)
  refine q_next ?_
  refine k_seq ?_
  refine k_region rfl ?_
  refine a_op ?_
  refine a_op ?_
  refine a_op (hs := by (simp (disch := first | omega | (simp only [List.length_drop, List.length_take, List.length_map, List.length_append, List.length_cons, List.length_nil, List.length_replicate, List.length_set] <;> omega) | (simp only [push_cast] <;> omega) | fail) only [push_cast, reduceCtorEq, Nat.reduceAdd, Nat.reduceSub, Nat.reduceMul, Nat.reduceEqDiff, Nat.reduceLT, Nat.reduceLeDiff, Nat.reduceMod, Nat.reduceDiv, Int.reduceLE, Int.reduceLT, Int.reduceEq, Int.reduceToNat, Int.reduceAdd, Int.reduceSub, Int.reduceMul, Int.reduceNeg, hw'] <;> rfl)) ?_
  iterate 4 refine a_op ?_
  refine s_nil (r_false ?_)
  refine q_next ?_
  refine k_seq ?_
  refine k_region rfl ?_
  refine a_op ?_
  refine a_op (hs := by (simp (disch := first | omega | (simp only [List.length_drop, List.length_take, List.length_map, List.length_append, List.length_cons, List.length_nil, List.length_replicate, List.length_set] <;> omega) | (simp only [push_cast] <;> omega) | fail) only [push_cast, reduceCtorEq, Nat.reduceAdd, Nat.reduceSub, Nat.reduceMul, Nat.reduceEqDiff, Nat.reduceLT, Nat.reduceLeDiff, Nat.reduceMod, Nat.reduceDiv, Int.reduceLE, Int.reduceLT, Int.reduceEq, Int.reduceToNat, Int.reduceAdd, Int.reduceSub, Int.reduceMul, Int.reduceNeg, hw'] <;> rfl)) ?_
  refine a_op ?_
  refine a_op ?_
  refine a_no ?_
  refine a_no ?_
  refine a_op ?_
  refine a_op ?_
  refine a_no ?_
  refine a_no ?_
  refine a_op ?_
  refine a_op ?_
  refine s_nil (r_false ?_)
  refine q_next ?_
  refine k_seq ?_
  refine k_region rfl ?_
  iterate 4 refine a_op ?_
  refine a_cv8 ?_
  rw [hk8]
  refine a_op ?_
  first | refine a_text ?_ | refine a_texts ?_
  refine a_call [] true ((by have h := Get_good Γ hE (k8 :: [0, 0, 0, 0, 0, 0, 0, 0]) (by simp); rw [got_kind hb4, Option.getD_none, Option.isSome_none] at h; exact h)) ?_
  iterate 6 refine a_op ?_
  refine s_nil (r_false ?_)
  refine q_next ?_
  refine k_seq ?_
  refine k_region rfl ?_
  refine a_op ?_
  refine a_call [.r 1 6 0] false ((by have h := May_good Γ (.mk 2 0 [] [.mk 1 1 [] []]); rw [hm] at h; exact h)) ?_
  iterate 3 refine a_op ?_
  refine a_go ?_
  refine a_callgo [.r 1 6 0] false ((by have h := Put_good Γ (.mk 2 0 [] [.mk 1 1 [] []]) (fun h => by rw [hm] at h; cases h); rw [hp] at h; exact h)) ?_
  refine a_go ?_
  refine a_go ?_
  refine a_go ?_
  refine a_op ?_
  refine a_op ?_
  refine a_go ?_
  refine a_go ?_
  refine a_op ?_
  refine a_op ?_
  refine a_go ?_
  refine a_go ?_
  refine a_callgo [.r 5 17 0, .r 1 6 0] true (List_good Γ [(.mk 2 0 [] [.mk 1 1 [] []])] (by simp [Wr.szL, Wr.sz])) ?_
  refine a_callgo [] false ((by have h := May_good Γ (.mk 3 0 [] [(.mk 2 0 [] [.mk 1 1 [] []])]); rw [hm2] at h; exact h)) ?_
  refine a_go ?_
  refine a_go ?_
  refine a_op ?_
  refine a_op ?_
  refine a_callgo [] false (awake_good Γ hE) ?_
  refine a_op ?_
  refine a_op ?_
  refine s_nil (r_false ?_)
  refine q_next ?_
  refine k_ret ?_
  refine ⟨.inr rfl, a_ret [] (by rw [results8]) ?_ ?_ ?_⟩ <;> simp [-List.map_set, -List.map_replicate, -List.reduceReplicate, -List.map_map, -List.map_drop, -List.map_take, num, bol, txt, w8, w16, w32, w64, lst, cls, rowO, boxO, List.take_of_length_le, Wr.cellsL_len, wA, Wr.k_mk, Wr.n_mk, Wr.s_mk, Wr.l_mk, Wr.cellsL, Wr.z_eq]

theorem kinds4_good (Γ : Gl) (hE : EG Γ) (which : UInt8) (kind : Int) (hw : which.toNat % 7 = 4) : Go.Ot.Good Γ prog 8 [.t (num kind), .t (w8 which)] [] (.t (bol true)) [] [] := by
  refine a_body F.mix func8 (by rfl) ntmps8 ?_
  refine k_seq ?_
  refine k_region rfl ?_
  refine a_op ?_
  refine s_nil (r_false ?_)
  refine q_next ?_
  refine k_seq ?_
  refine k_region rfl ?_
  have hw' : (which.toNat : Int) % 7 = 4 := by omega
  have hw8 := UInt8.toNat_lt which
  obtain ⟨k8, hk8⟩ : ∃ k8 : UInt8, UInt8.ofInt ((4 : Int) + (which.toNat : Int) % 200) = k8 := ⟨_, rfl⟩
  have hb4 := byte4 hk8
  have hm : mayW 6 (.mk 3 1 [] []) = false := by decide +kernel
  have hm2 : mayW 6 (.mk 3 0 [] [(.mk 3 1 [] [])]) = false := by decide +kernel
  have hp : PutW (.mk 3 1 [] []) = [] := PutW_f hm
  refine a_op ?_
  refine a_call [] false (Num_good Γ 1) ?_
  iterate 3 refine a_op ?_
  refine a_call [] false (Num_good Γ 1) ?_
  iterate 8 refine a_op ?_
  refine s_nil (r_false ?_)
  refine q_next ?_
  refine k_seq ?_
  refine k_region rfl ?_
  refine a_op ?_
  refine a_op ?_
  refine a_op (hs := by (simp (disch := first | omega | (simp only [List.length_drop, List.length_take, List.length_map, List.length_append, List.length_cons, List.length_nil, List.length_replicate, List.length_set] <;> omega) | (simp only [push_cast] <;> omega) | fail) only [push_cast, reduceCtorEq, Nat.reduceAdd, Nat.reduceSub, Nat.reduceMul, Nat.reduceEqDiff, Nat.reduceLT, Nat.reduceLeDiff, Nat.reduceMod, Nat.reduceDiv, Int.reduceLE, Int.reduceLT, Int.reduceEq, Int.reduceToNat, Int.reduceAdd, Int.reduceSub, Int.reduceMul, Int.reduceNeg, hw'] <;> rfl)) ?_
  iterate 4 refine a_op ?_
  refine s_nil (r_false ?_)
  refine q_next ?_
  refine k_seq ?_
  refine k_region rfl ?_
  refine a_op ?_
  refine a_op (hs := by (simp (disch := first | omega | (simp only [List.length_drop, List.length_take, List.length_map, List.length_append, List.length_cons, List.length_nil, List.length_replicate, List.length_set] <;> omega) | (simp only [push_cast] <;> omega) | fail) only [push_cast, reduceCtorEq, Nat.reduceAdd, Nat.reduceSub, Nat.reduceMul, Nat.reduceEqDiff, Nat.reduceLT, Nat.reduceLeDiff, Nat.reduceMod, Nat.reduceDiv, Int.reduceLE, Int.reduceLT, Int.reduceEq, Int.reduceToNat, Int.reduceAdd, Int.reduceSub, Int.reduceMul, Int.reduceNeg, hw'] <;> rfl)) ?_
  refine a_op ?_
  refine a_op ?_
  refine a_no ?_
  refine a_no ?_
  refine a_op ?_
  refine a_op ?_
  refine a_no ?_
  refine a_no ?_
  refine a_op ?_
  refine a_op ?_
  refine s_nil (r_false ?_)
  refine q_next ?_
  refine k_seq ?_
  refine k_region rfl ?_
  iterate 4 refine a_op ?_
  refine a_cv8 ?_
  rw [hk8]
  refine a_op ?_
  first | refine a_text ?_ | refine a_texts ?_
  refine a_call [] true ((by have h := Get_good Γ hE (k8 :: [0, 0, 0, 0, 0, 0, 0, 0]) (by simp); rw [got_kind hb4, Option.getD_none, Option.isSome_none] at h; exact h)) ?_
  iterate 6 refine a_op ?_
  refine s_nil (r_false ?_)
  refine q_next ?_
  refine k_seq ?_
  refine k_region rfl ?_
  refine a_op ?_
  refine a_call [] false ((by have h := May_good Γ (.mk 3 1 [] []); rw [hm] at h; exact h)) ?_
  iterate 3 refine a_op ?_
  refine a_go ?_
  refine a_callgo [] false ((by have h := Put_good Γ (.mk 3 1 [] []) (fun h => by rw [hm] at h; cases h); rw [hp] at h; exact h)) ?_
  refine a_go ?_
  refine a_go ?_
  refine a_go ?_
  refine a_op ?_
  refine a_op ?_
  refine a_go ?_
  refine a_go ?_
  refine a_op ?_
  refine a_op ?_
  refine a_go ?_
  refine a_go ?_
  refine a_callgo [.r 5 17 0] true (List_good Γ [(.mk 3 1 [] [])] (by simp [Wr.szL, Wr.sz])) ?_
  refine a_callgo [] false ((by have h := May_good Γ (.mk 3 0 [] [(.mk 3 1 [] [])]); rw [hm2] at h; exact h)) ?_
  refine a_go ?_
  refine a_go ?_
  refine a_op ?_
  refine a_op ?_
  refine a_callgo [] false (awake_good Γ hE) ?_
  refine a_op ?_
  refine a_op ?_
  refine s_nil (r_false ?_)
  refine q_next ?_
  refine k_ret ?_
  refine ⟨.inr rfl, a_ret [] (by rw [results8]) ?_ ?_ ?_⟩ <;> simp [-List.map_set, -List.map_replicate, -List.reduceReplicate, -List.map_map, -List.map_drop, -List.map_take, num, bol, txt, w8, w16, w32, w64, lst, cls, rowO, boxO, List.take_of_length_le, Wr.cellsL_len, wA, Wr.k_mk, Wr.n_mk, Wr.s_mk, Wr.l_mk, Wr.cellsL, Wr.z_eq]

theorem kinds5_good (Γ : Gl) (hE : EG Γ) (which : UInt8) (kind : Int) (hw : which.toNat % 7 = 5) : Go.Ot.Good Γ prog 8 [.t (num kind), .t (w8 which)] [] (.t (bol true)) [] [] := by
  refine a_body F.mix func8 (by rfl) ntmps8 ?_
  refine k_seq ?_
  refine k_region rfl ?_
  refine a_op ?_
  refine s_nil (r_false ?_)
  refine q_next ?_
  refine k_seq ?_
  refine k_region rfl ?_
  have hw' : (which.toNat : Int) % 7 = 5 := by omega
  have hw8 := UInt8.toNat_lt which
  obtain ⟨k8, hk8⟩ : ∃ k8 : UInt8, UInt8.ofInt ((4 : Int) + (which.toNat : Int) % 200) = k8 := ⟨_, rfl⟩
  have hb4 := byte4 hk8
  have hm : mayW 6 (.mk 3 0 [120] []) = false := by decide +kernel
  have hm2 : mayW 6 (.mk 3 0 [] [(.mk 3 0 [120] [])]) = false := by decide +kernel
  have hp : PutW (.mk 3 0 [120] []) = [] := PutW_f hm
  refine a_op ?_
  refine a_call [] false (Num_good Γ 1) ?_
  iterate 3 refine a_op ?_
  refine a_call [] false (Num_good Γ 1) ?_
  iterate 8 refine a_op ?_
  refine s_nil (r_false ?_)
  refine q_next ?_
  refine k_seq ?_
  refine k_region rfl ?_
  refine a_op ?_
  refine a_op ?_
  refine a_op (hs := by (simp (disch := first | omega | (simp only [List.length_drop, List.length_take, List.length_map, List.length_append, List.length_cons, List.length_nil, List.length_replicate, List.length_set] <;> omega) | (simp only [push_cast] <;> omega) | fail) only [push_cast, reduceCtorEq, Nat.reduceAdd, Nat.reduceSub, Nat.reduceMul, Nat.reduceEqDiff, Nat.reduceLT, Nat.reduceLeDiff, Nat.reduceMod, Nat.reduceDiv, Int.reduceLE, Int.reduceLT, Int.reduceEq, Int.reduceToNat, Int.reduceAdd, Int.reduceSub, Int.reduceMul, Int.reduceNeg, hw'] <;> rfl)) ?_
  iterate 4 refine a_op ?_
  refine s_nil (r_false ?_)
  refine q_next ?_
  refine k_seq ?_
  refine k_region rfl ?_
  refine a_op ?_
  refine a_op (hs := by (simp (disch := first | omega | (simp only [List.length_drop, List.length_take, List.length_map, List.length_append, List.length_cons, List.length_nil, List.length_replicate, List.length_set] <;> omega) | (simp only [push_cast] <;> omega) | fail) only [push_cast, reduceCtorEq, Nat.reduceAdd, Nat.reduceSub, Nat.reduceMul, Nat.reduceEqDiff, Nat.reduceLT, Nat.reduceLeDiff, Nat.reduceMod, Nat.reduceDiv, Int.reduceLE, Int.reduceLT, Int.reduceEq, Int.reduceToNat, Int.reduceAdd, Int.reduceSub, Int.reduceMul, Int.reduceNeg, hw'] <;> rfl)) ?_
  refine a_op ?_
  refine a_op ?_
  refine a_no ?_
  refine a_no ?_
  refine a_op ?_
  refine a_op ?_
  refine a_no ?_
  refine a_no ?_
  refine a_op ?_
  refine a_op ?_
  refine s_nil (r_false ?_)
  refine q_next ?_
  refine k_seq ?_
  refine k_region rfl ?_
  iterate 4 refine a_op ?_
  refine a_cv8 ?_
  rw [hk8]
  refine a_op ?_
  first | refine a_text ?_ | refine a_texts ?_
  refine a_call [] true ((by have h := Get_good Γ hE (k8 :: [0, 0, 0, 0, 0, 0, 0, 0]) (by simp); rw [got_kind hb4, Option.getD_none, Option.isSome_none] at h; exact h)) ?_
  iterate 6 refine a_op ?_
  refine s_nil (r_false ?_)
  refine q_next ?_
  refine k_seq ?_
  refine k_region rfl ?_
  refine a_op ?_
  refine a_call [] false ((by have h := May_good Γ (.mk 3 0 [120] []); rw [hm] at h; exact h)) ?_
  iterate 3 refine a_op ?_
  refine a_go ?_
  refine a_callgo [] false ((by have h := Put_good Γ (.mk 3 0 [120] []) (fun h => by rw [hm] at h; cases h); rw [hp] at h; exact h)) ?_
  refine a_go ?_
  refine a_go ?_
  refine a_go ?_
  refine a_op ?_
  refine a_op ?_
  refine a_go ?_
  refine a_go ?_
  refine a_op ?_
  refine a_op ?_
  refine a_go ?_
  refine a_go ?_
  refine a_callgo [.r 5 17 0] true (List_good Γ [(.mk 3 0 [120] [])] (by simp [Wr.szL, Wr.sz])) ?_
  refine a_callgo [] false ((by have h := May_good Γ (.mk 3 0 [] [(.mk 3 0 [120] [])]); rw [hm2] at h; exact h)) ?_
  refine a_go ?_
  refine a_go ?_
  refine a_op ?_
  refine a_op ?_
  refine a_callgo [] false (awake_good Γ hE) ?_
  refine a_op ?_
  refine a_op ?_
  refine s_nil (r_false ?_)
  refine q_next ?_
  refine k_ret ?_
  refine ⟨.inr rfl, a_ret [] (by rw [results8]) ?_ ?_ ?_⟩ <;> simp [-List.map_set, -List.map_replicate, -List.reduceReplicate, -List.map_map, -List.map_drop, -List.map_take, num, bol, txt, w8, w16, w32, w64, lst, cls, rowO, boxO, List.take_of_length_le, Wr.cellsL_len, wA, Wr.k_mk, Wr.n_mk, Wr.s_mk, Wr.l_mk, Wr.cellsL, Wr.z_eq]

theorem kindsa_good (Γ : Gl) (hE : EG Γ) (which : UInt8) (hw : which.toNat % 7 = 6) : Go.Ot.Good Γ prog 8 [.t (num 1), .t (w8 which)] [] (.t (bol true)) [] [] := by
  refine a_body F.mix func8 (by rfl) ntmps8 ?_
  refine k_seq ?_
  refine k_region rfl ?_
  refine a_op ?_
  refine s_nil (r_false ?_)
  refine q_next ?_
  refine k_seq ?_
  refine k_region rfl ?_
  have hw' : (which.toNat : Int) % 7 = 6 := by omega
  have hw8 := UInt8.toNat_lt which
  obtain ⟨k8, hk8⟩ : ∃ k8 : UInt8, UInt8.ofInt ((4 : Int) + (which.toNat : Int) % 200) = k8 := ⟨_, rfl⟩
  have hb4 := byte4 hk8
  have hm : mayW 6 (.mk 1 0 [] []) = true := by decide +kernel
  have hm2 : mayW 6 (.mk 3 0 [] [(.mk 1 0 [] [])]) = true := by decide +kernel
  have hp : PutW (.mk 1 0 [] []) = [1, 0, 0, 0, 0, 0, 0, 0, 0] := by decide +kernel
  refine a_op ?_
  refine a_call [] false (Num_good Γ 1) ?_
  iterate 3 refine a_op ?_
  refine a_call [] false (Num_good Γ 1) ?_
  iterate 8 refine a_op ?_
  refine s_nil (r_false ?_)
  refine q_next ?_
  refine k_seq ?_
  refine k_region rfl ?_
  refine a_op ?_
  refine a_op ?_
  refine a_op (hs := by (simp (disch := first | omega | (simp only [List.length_drop, List.length_take, List.length_map, List.length_append, List.length_cons, List.length_nil, List.length_replicate, List.length_set] <;> omega) | (simp only [push_cast] <;> omega) | fail) only [push_cast, reduceCtorEq, Nat.reduceAdd, Nat.reduceSub, Nat.reduceMul, Nat.reduceEqDiff, Nat.reduceLT, Nat.reduceLeDiff, Nat.reduceMod, Nat.reduceDiv, Int.reduceLE, Int.reduceLT, Int.reduceEq, Int.reduceToNat, Int.reduceAdd, Int.reduceSub, Int.reduceMul, Int.reduceNeg, hw'] <;> rfl)) ?_
  iterate 4 refine a_op ?_
  refine s_nil (r_false ?_)
  refine q_next ?_
  refine k_seq ?_
  refine k_region rfl ?_
  refine a_op ?_
  refine a_op (hs := by (simp (disch := first | omega | (simp only [List.length_drop, List.length_take, List.length_map, List.length_append, List.length_cons, List.length_nil, List.length_replicate, List.length_set] <;> omega) | (simp only [push_cast] <;> omega) | fail) only [push_cast, reduceCtorEq, Nat.reduceAdd, Nat.reduceSub, Nat.reduceMul, Nat.reduceEqDiff, Nat.reduceLT, Nat.reduceLeDiff, Nat.reduceMod, Nat.reduceDiv, Int.reduceLE, Int.reduceLT, Int.reduceEq, Int.reduceToNat, Int.reduceAdd, Int.reduceSub, Int.reduceMul, Int.reduceNeg, hw'] <;> rfl)) ?_
  refine a_op ?_
  refine a_op ?_
  refine a_go ?_
  refine a_go ?_
  refine a_op ?_
  refine a_op ?_
  refine a_go ?_
  refine a_go ?_
  refine a_op ?_
  refine a_op ?_
  refine s_nil (r_false ?_)
  refine q_next ?_
  refine k_seq ?_
  refine k_region rfl ?_
  iterate 4 refine a_op ?_
  refine a_cv8 ?_
  rw [hk8]
  refine a_op ?_
  first | refine a_text ?_ | refine a_texts ?_
  refine a_call [] true ((by have h := Get_good Γ hE (k8 :: [0, 0, 0, 0, 0, 0, 0, 0]) (by simp); rw [got_kind hb4, Option.getD_none, Option.isSome_none] at h; exact h)) ?_
  iterate 6 refine a_op ?_
  refine s_nil (r_false ?_)
  refine q_next ?_
  refine k_seq ?_
  refine k_region rfl ?_
  refine a_op ?_
  refine a_call [] false ((by have h := May_good Γ (.mk 1 0 [] []); rw [hm] at h; exact h)) ?_
  iterate 3 refine a_op ?_
  refine a_go ?_
  refine a_callgo [] false ((by have h := Put_good Γ (.mk 1 0 [] []) (fun _ => by decide +kernel); rw [hp] at h; exact h)) ?_
  refine a_go ?_
  refine a_go ?_
  refine a_go ?_
  refine a_op ?_
  refine a_op ?_
  refine a_go ?_
  refine a_go ?_
  refine a_op ?_
  refine a_op ?_
  refine a_go ?_
  refine a_go ?_
  refine a_callgo [.r 5 17 0] true (List_good Γ [(.mk 1 0 [] [])] (by simp [Wr.szL, Wr.sz])) ?_
  refine a_callgo [] false ((by have h := May_good Γ (.mk 3 0 [] [(.mk 1 0 [] [])]); rw [hm2] at h; exact h)) ?_
  refine a_go ?_
  refine a_go ?_
  refine a_op ?_
  refine a_op ?_
  refine a_callgo [] false (awake_good Γ hE) ?_
  refine a_op ?_
  refine a_op ?_
  refine s_nil (r_false ?_)
  refine q_next ?_
  refine k_ret ?_
  refine ⟨.inr rfl, a_ret [] (by rw [results8]) ?_ ?_ ?_⟩ <;> simp [-List.map_set, -List.map_replicate, -List.reduceReplicate, -List.map_map, -List.map_drop, -List.map_take, num, bol, txt, w8, w16, w32, w64, lst, cls, rowO, boxO, List.take_of_length_le, Wr.cellsL_len, wA, Wr.k_mk, Wr.n_mk, Wr.s_mk, Wr.l_mk, Wr.cellsL, Wr.z_eq]

theorem kindsb_good (Γ : Gl) (hE : EG Γ) (which : UInt8) (hw : which.toNat % 7 = 6) : Go.Ot.Good Γ prog 8 [.t (num 2), .t (w8 which)] [] (.t (bol true)) [] [] := by
  refine a_body F.mix func8 (by rfl) ntmps8 ?_
  refine k_seq ?_
  refine k_region rfl ?_
  refine a_op ?_
  refine s_nil (r_false ?_)
  refine q_next ?_
  refine k_seq ?_
  refine k_region rfl ?_
  have hw' : (which.toNat : Int) % 7 = 6 := by omega
  have hw8 := UInt8.toNat_lt which
  obtain ⟨k8, hk8⟩ : ∃ k8 : UInt8, UInt8.ofInt ((4 : Int) + (which.toNat : Int) % 200) = k8 := ⟨_, rfl⟩
  have hb4 := byte4 hk8
  have hm : mayW 6 (.mk 2 0 [] []) = true := by decide +kernel
  have hm2 : mayW 6 (.mk 3 0 [] [(.mk 2 0 [] [])]) = true := by decide +kernel
  have hp : PutW (.mk 2 0 [] []) = [2, 0, 0, 0, 0] := by decide +kernel
  refine a_op ?_
  refine a_call [] false (Num_good Γ 1) ?_
  iterate 3 refine a_op ?_
  refine a_call [] false (Num_good Γ 1) ?_
  iterate 8 refine a_op ?_
  refine s_nil (r_false ?_)
  refine q_next ?_
  refine k_seq ?_
  refine k_region rfl ?_
  refine a_op ?_
  refine a_op ?_
  refine a_op (hs := by (simp (disch := first | omega | (simp only [List.length_drop, List.length_take, List.length_map, List.length_append, List.length_cons, List.length_nil, List.length_replicate, List.length_set] <;> omega) | (simp only [push_cast] <;> omega) | fail) only [push_cast, reduceCtorEq, Nat.reduceAdd, Nat.reduceSub, Nat.reduceMul, Nat.reduceEqDiff, Nat.reduceLT, Nat.reduceLeDiff, Nat.reduceMod, Nat.reduceDiv, Int.reduceLE, Int.reduceLT, Int.reduceEq, Int.reduceToNat, Int.reduceAdd, Int.reduceSub, Int.reduceMul, Int.reduceNeg, hw'] <;> rfl)) ?_
  iterate 4 refine a_op ?_
  refine s_nil (r_false ?_)
  refine q_next ?_
  refine k_seq ?_
  refine k_region rfl ?_
  refine a_op ?_
  refine a_op (hs := by (simp (disch := first | omega | (simp only [List.length_drop, List.length_take, List.length_map, List.length_append, List.length_cons, List.length_nil, List.length_replicate, List.length_set] <;> omega) | (simp only [push_cast] <;> omega) | fail) only [push_cast, reduceCtorEq, Nat.reduceAdd, Nat.reduceSub, Nat.reduceMul, Nat.reduceEqDiff, Nat.reduceLT, Nat.reduceLeDiff, Nat.reduceMod, Nat.reduceDiv, Int.reduceLE, Int.reduceLT, Int.reduceEq, Int.reduceToNat, Int.reduceAdd, Int.reduceSub, Int.reduceMul, Int.reduceNeg, hw'] <;> rfl)) ?_
  refine a_op ?_
  refine a_op ?_
  refine a_go ?_
  refine a_go ?_
  refine a_op ?_
  refine a_op ?_
  refine a_go ?_
  refine a_go ?_
  refine a_op ?_
  refine a_op ?_
  refine s_nil (r_false ?_)
  refine q_next ?_
  refine k_seq ?_
  refine k_region rfl ?_
  iterate 4 refine a_op ?_
  refine a_cv8 ?_
  rw [hk8]
  refine a_op ?_
  first | refine a_text ?_ | refine a_texts ?_
  refine a_call [] true ((by have h := Get_good Γ hE (k8 :: [0, 0, 0, 0, 0, 0, 0, 0]) (by simp); rw [got_kind hb4, Option.getD_none, Option.isSome_none] at h; exact h)) ?_
  iterate 6 refine a_op ?_
  refine s_nil (r_false ?_)
  refine q_next ?_
  refine k_seq ?_
  refine k_region rfl ?_
  refine a_op ?_
  refine a_call [] false ((by have h := May_good Γ (.mk 2 0 [] []); rw [hm] at h; exact h)) ?_
  iterate 3 refine a_op ?_
  refine a_go ?_
  refine a_callgo [] false ((by have h := Put_good Γ (.mk 2 0 [] []) (fun _ => by decide +kernel); rw [hp] at h; exact h)) ?_
  refine a_go ?_
  refine a_go ?_
  refine a_go ?_
  refine a_op ?_
  refine a_op ?_
  refine a_go ?_
  refine a_go ?_
  refine a_op ?_
  refine a_op ?_
  refine a_go ?_
  refine a_go ?_
  refine a_callgo [.r 5 17 0] true (List_good Γ [(.mk 2 0 [] [])] (by simp [Wr.szL, Wr.sz])) ?_
  refine a_callgo [] false ((by have h := May_good Γ (.mk 3 0 [] [(.mk 2 0 [] [])]); rw [hm2] at h; exact h)) ?_
  refine a_go ?_
  refine a_go ?_
  refine a_op ?_
  refine a_op ?_
  refine a_callgo [] false (awake_good Γ hE) ?_
  refine a_op ?_
  refine a_op ?_
  refine s_nil (r_false ?_)
  refine q_next ?_
  refine k_ret ?_
  refine ⟨.inr rfl, a_ret [] (by rw [results8]) ?_ ?_ ?_⟩ <;> simp [-List.map_set, -List.map_replicate, -List.reduceReplicate, -List.map_map, -List.map_drop, -List.map_take, num, bol, txt, w8, w16, w32, w64, lst, cls, rowO, boxO, List.take_of_length_le, Wr.cellsL_len, wA, Wr.k_mk, Wr.n_mk, Wr.s_mk, Wr.l_mk, Wr.cellsL, Wr.z_eq]

theorem kindsc_good (Γ : Gl) (hE : EG Γ) (which : UInt8) (hw : which.toNat % 7 = 6) : Go.Ot.Good Γ prog 8 [.t (num 3), .t (w8 which)] [] (.t (bol true)) [] [] := by
  refine a_body F.mix func8 (by rfl) ntmps8 ?_
  refine k_seq ?_
  refine k_region rfl ?_
  refine a_op ?_
  refine s_nil (r_false ?_)
  refine q_next ?_
  refine k_seq ?_
  refine k_region rfl ?_
  have hw' : (which.toNat : Int) % 7 = 6 := by omega
  have hw8 := UInt8.toNat_lt which
  obtain ⟨k8, hk8⟩ : ∃ k8 : UInt8, UInt8.ofInt ((4 : Int) + (which.toNat : Int) % 200) = k8 := ⟨_, rfl⟩
  have hb4 := byte4 hk8
  have hm : mayW 6 (.mk 3 0 [] []) = true := by decide +kernel
  have hm2 : mayW 6 (.mk 3 0 [] [(.mk 3 0 [] [])]) = true := by decide +kernel
  have hp : PutW (.mk 3 0 [] []) = [3, 0, 0, 0, 0] := by decide +kernel
  refine a_op ?_
  refine a_call [] false (Num_good Γ 1) ?_
  iterate 3 refine a_op ?_
  refine a_call [] false (Num_good Γ 1) ?_
  iterate 8 refine a_op ?_
  refine s_nil (r_false ?_)
  refine q_next ?_
  refine k_seq ?_
  refine k_region rfl ?_
  refine a_op ?_
  refine a_op ?_
  refine a_op (hs := by (simp (disch := first | omega | (simp only [List.length_drop, List.length_take, List.length_map, List.length_append, List.length_cons, List.length_nil, List.length_replicate, List.length_set] <;> omega) | (simp only [push_cast] <;> omega) | fail) only [push_cast, reduceCtorEq, Nat.reduceAdd, Nat.reduceSub, Nat.reduceMul, Nat.reduceEqDiff, Nat.reduceLT, Nat.reduceLeDiff, Nat.reduceMod, Nat.reduceDiv, Int.reduceLE, Int.reduceLT, Int.reduceEq, Int.reduceToNat, Int.reduceAdd, Int.reduceSub, Int.reduceMul, Int.reduceNeg, hw'] <;> rfl)) ?_
  iterate 4 refine a_op ?_
  refine s_nil (r_false ?_)
  refine q_next ?_
  refine k_seq ?_
  refine k_region rfl ?_
  refine a_op ?_
  refine a_op (hs := by (simp (disch := first | omega | (simp only [List.length_drop, List.length_take, List.length_map, List.length_append, List.length_cons, List.length_nil, List.length_replicate, List.length_set] <;> omega) | (simp only [push_cast] <;> omega) | fail) only [push_cast, reduceCtorEq, Nat.reduceAdd, Nat.reduceSub, Nat.reduceMul, Nat.reduceEqDiff, Nat.reduceLT, Nat.reduceLeDiff, Nat.reduceMod, Nat.reduceDiv, Int.reduceLE, Int.reduceLT, Int.reduceEq, Int.reduceToNat, Int.reduceAdd, Int.reduceSub, Int.reduceMul, Int.reduceNeg, hw'] <;> rfl)) ?_
  refine a_op ?_
  refine a_op ?_
  refine a_go ?_
  refine a_go ?_
  refine a_op ?_
  refine a_op ?_
  refine a_go ?_
  refine a_go ?_
  refine a_op ?_
  refine a_op ?_
  refine s_nil (r_false ?_)
  refine q_next ?_
  refine k_seq ?_
  refine k_region rfl ?_
  iterate 4 refine a_op ?_
  refine a_cv8 ?_
  rw [hk8]
  refine a_op ?_
  first | refine a_text ?_ | refine a_texts ?_
  refine a_call [] true ((by have h := Get_good Γ hE (k8 :: [0, 0, 0, 0, 0, 0, 0, 0]) (by simp); rw [got_kind hb4, Option.getD_none, Option.isSome_none] at h; exact h)) ?_
  iterate 6 refine a_op ?_
  refine s_nil (r_false ?_)
  refine q_next ?_
  refine k_seq ?_
  refine k_region rfl ?_
  refine a_op ?_
  refine a_call [] false ((by have h := May_good Γ (.mk 3 0 [] []); rw [hm] at h; exact h)) ?_
  iterate 3 refine a_op ?_
  refine a_go ?_
  refine a_callgo [] false ((by have h := Put_good Γ (.mk 3 0 [] []) (fun _ => by decide +kernel); rw [hp] at h; exact h)) ?_
  refine a_go ?_
  refine a_go ?_
  refine a_go ?_
  refine a_op ?_
  refine a_op ?_
  refine a_go ?_
  refine a_go ?_
  refine a_op ?_
  refine a_op ?_
  refine a_go ?_
  refine a_go ?_
  refine a_callgo [.r 5 17 0] true (List_good Γ [(.mk 3 0 [] [])] (by simp [Wr.szL, Wr.sz])) ?_
  refine a_callgo [] false ((by have h := May_good Γ (.mk 3 0 [] [(.mk 3 0 [] [])]); rw [hm2] at h; exact h)) ?_
  refine a_go ?_
  refine a_go ?_
  refine a_op ?_
  refine a_op ?_
  refine a_callgo [] false (awake_good Γ hE) ?_
  refine a_op ?_
  refine a_op ?_
  refine s_nil (r_false ?_)
  refine q_next ?_
  refine k_ret ?_
  refine ⟨.inr rfl, a_ret [] (by rw [results8]) ?_ ?_ ?_⟩ <;> simp [-List.map_set, -List.map_replicate, -List.reduceReplicate, -List.map_map, -List.map_drop, -List.map_take, num, bol, txt, w8, w16, w32, w64, lst, cls, rowO, boxO, List.take_of_length_le, Wr.cellsL_len, wA, Wr.k_mk, Wr.n_mk, Wr.s_mk, Wr.l_mk, Wr.cellsL, Wr.z_eq]

theorem kindsd_good (Γ : Gl) (hE : EG Γ) (which : UInt8) (kind : Int) (hw : which.toNat % 7 = 6) (hk : 3 < kind) : Go.Ot.Good Γ prog 8 [.t (num kind), .t (w8 which)] [] (.t (bol true)) [] [] := by
  refine a_body F.mix func8 (by rfl) ntmps8 ?_
  refine k_seq ?_
  refine k_region rfl ?_
  refine a_op ?_
  refine s_nil (r_false ?_)
  refine q_next ?_
  refine k_seq ?_
  refine k_region rfl ?_
  have hw' : (which.toNat : Int) % 7 = 6 := by omega
  have hw8 := UInt8.toNat_lt which
  obtain ⟨k8, hk8⟩ : ∃ k8 : UInt8, UInt8.ofInt ((4 : Int) + (which.toNat : Int) % 200) = k8 := ⟨_, rfl⟩
  have hb4 := byte4 hk8
  have hm : mayW 6 (.mk kind 0 [] []) = false := kind_no (by omega)
  have hm2 : mayW 6 (.mk 3 0 [] [(.mk kind 0 [] [])]) = false := kind_no2 (by omega)
  have hp : PutW (.mk kind 0 [] []) = [] := PutW_f hm
  refine a_op ?_
  refine a_call [] false (Num_good Γ 1) ?_
  iterate 3 refine a_op ?_
  refine a_call [] false (Num_good Γ 1) ?_
  iterate 8 refine a_op ?_
  refine s_nil (r_false ?_)
  refine q_next ?_
  refine k_seq ?_
  refine k_region rfl ?_
  refine a_op ?_
  refine a_op ?_
  refine a_op (hs := by (simp (disch := first | omega | (simp only [List.length_drop, List.length_take, List.length_map, List.length_append, List.length_cons, List.length_nil, List.length_replicate, List.length_set] <;> omega) | (simp only [push_cast] <;> omega) | fail) only [push_cast, reduceCtorEq, Nat.reduceAdd, Nat.reduceSub, Nat.reduceMul, Nat.reduceEqDiff, Nat.reduceLT, Nat.reduceLeDiff, Nat.reduceMod, Nat.reduceDiv, Int.reduceLE, Int.reduceLT, Int.reduceEq, Int.reduceToNat, Int.reduceAdd, Int.reduceSub, Int.reduceMul, Int.reduceNeg, hw'] <;> rfl)) ?_
  iterate 4 refine a_op ?_
  refine s_nil (r_false ?_)
  refine q_next ?_
  refine k_seq ?_
  refine k_region rfl ?_
  refine a_op ?_
  refine a_op (hs := by (simp (disch := first | omega | (simp only [List.length_drop, List.length_take, List.length_map, List.length_append, List.length_cons, List.length_nil, List.length_replicate, List.length_set] <;> omega) | (simp only [push_cast] <;> omega) | fail) only [push_cast, reduceCtorEq, Nat.reduceAdd, Nat.reduceSub, Nat.reduceMul, Nat.reduceEqDiff, Nat.reduceLT, Nat.reduceLeDiff, Nat.reduceMod, Nat.reduceDiv, Int.reduceLE, Int.reduceLT, Int.reduceEq, Int.reduceToNat, Int.reduceAdd, Int.reduceSub, Int.reduceMul, Int.reduceNeg, hw'] <;> rfl)) ?_
  refine a_op ?_
  refine a_op ?_
  refine a_go ?_
  refine a_go ?_
  refine a_op ?_
  refine a_op ?_
  refine a_go ?_
  refine a_go ?_
  refine a_op ?_
  refine a_op ?_
  refine s_nil (r_false ?_)
  refine q_next ?_
  refine k_seq ?_
  refine k_region rfl ?_
  iterate 4 refine a_op ?_
  refine a_cv8 ?_
  rw [hk8]
  refine a_op ?_
  first | refine a_text ?_ | refine a_texts ?_
  refine a_call [] true ((by have h := Get_good Γ hE (k8 :: [0, 0, 0, 0, 0, 0, 0, 0]) (by simp); rw [got_kind hb4, Option.getD_none, Option.isSome_none] at h; exact h)) ?_
  iterate 6 refine a_op ?_
  refine s_nil (r_false ?_)
  refine q_next ?_
  refine k_seq ?_
  refine k_region rfl ?_
  refine a_op ?_
  refine a_call [] false ((by have h := May_good Γ (.mk kind 0 [] []); rw [hm] at h; exact h)) ?_
  iterate 3 refine a_op ?_
  refine a_go ?_
  refine a_callgo [] false ((by have h := Put_good Γ (.mk kind 0 [] []) (fun h => by rw [hm] at h; cases h); rw [hp] at h; exact h)) ?_
  refine a_go ?_
  refine a_go ?_
  refine a_go ?_
  refine a_op ?_
  refine a_op ?_
  refine a_go ?_
  refine a_go ?_
  refine a_op ?_
  refine a_op ?_
  refine a_go ?_
  refine a_go ?_
  refine a_callgo [.r 5 17 0] true (List_good Γ [(.mk kind 0 [] [])] (by simp [Wr.szL, Wr.sz])) ?_
  refine a_callgo [] false ((by have h := May_good Γ (.mk 3 0 [] [(.mk kind 0 [] [])]); rw [hm2] at h; exact h)) ?_
  refine a_go ?_
  refine a_go ?_
  refine a_op ?_
  refine a_op ?_
  refine a_callgo [] false (awake_good Γ hE) ?_
  refine a_op ?_
  refine a_op ?_
  refine s_nil (r_false ?_)
  refine q_next ?_
  refine k_ret ?_
  refine ⟨.inr rfl, a_ret [] (by rw [results8]) ?_ ?_ ?_⟩ <;> simp [-List.map_set, -List.map_replicate, -List.reduceReplicate, -List.map_map, -List.map_drop, -List.map_take, num, bol, txt, w8, w16, w32, w64, lst, cls, rowO, boxO, List.take_of_length_le, Wr.cellsL_len, wA, Wr.k_mk, Wr.n_mk, Wr.s_mk, Wr.l_mk, Wr.cellsL, Wr.z_eq]

theorem kindse_good (Γ : Gl) (hE : EG Γ) (which : UInt8) (kind : Int) (hw : which.toNat % 7 = 6) (hk : kind < 1) : Go.Ot.Good Γ prog 8 [.t (num kind), .t (w8 which)] [] (.t (bol true)) [] [] := by
  refine a_body F.mix func8 (by rfl) ntmps8 ?_
  refine k_seq ?_
  refine k_region rfl ?_
  refine a_op ?_
  refine s_nil (r_false ?_)
  refine q_next ?_
  refine k_seq ?_
  refine k_region rfl ?_
  have hw' : (which.toNat : Int) % 7 = 6 := by omega
  have hw8 := UInt8.toNat_lt which
  obtain ⟨k8, hk8⟩ : ∃ k8 : UInt8, UInt8.ofInt ((4 : Int) + (which.toNat : Int) % 200) = k8 := ⟨_, rfl⟩
  have hb4 := byte4 hk8
  have hm : mayW 6 (.mk kind 0 [] []) = false := kind_no (by omega)
  have hm2 : mayW 6 (.mk 3 0 [] [(.mk kind 0 [] [])]) = false := kind_no2 (by omega)
  have hp : PutW (.mk kind 0 [] []) = [] := PutW_f hm
  refine a_op ?_
  refine a_call [] false (Num_good Γ 1) ?_
  iterate 3 refine a_op ?_
  refine a_call [] false (Num_good Γ 1) ?_
  iterate 8 refine a_op ?_
  refine s_nil (r_false ?_)
  refine q_next ?_
  refine k_seq ?_
  refine k_region rfl ?_
  refine a_op ?_
  refine a_op ?_
  refine a_op (hs := by (simp (disch := first | omega | (simp only [List.length_drop, List.length_take, List.length_map, List.length_append, List.length_cons, List.length_nil, List.length_replicate, List.length_set] <;> omega) | (simp only [push_cast] <;> omega) | fail) only [push_cast, reduceCtorEq, Nat.reduceAdd, Nat.reduceSub, Nat.reduceMul, Nat.reduceEqDiff, Nat.reduceLT, Nat.reduceLeDiff, Nat.reduceMod, Nat.reduceDiv, Int.reduceLE, Int.reduceLT, Int.reduceEq, Int.reduceToNat, Int.reduceAdd, Int.reduceSub, Int.reduceMul, Int.reduceNeg, hw'] <;> rfl)) ?_
  iterate 4 refine a_op ?_
  refine s_nil (r_false ?_)
  refine q_next ?_
  refine k_seq ?_
  refine k_region rfl ?_
  refine a_op ?_
  refine a_op (hs := by (simp (disch := first | omega | (simp only [List.length_drop, List.length_take, List.length_map, List.length_append, List.length_cons, List.length_nil, List.length_replicate, List.length_set] <;> omega) | (simp only [push_cast] <;> omega) | fail) only [push_cast, reduceCtorEq, Nat.reduceAdd, Nat.reduceSub, Nat.reduceMul, Nat.reduceEqDiff, Nat.reduceLT, Nat.reduceLeDiff, Nat.reduceMod, Nat.reduceDiv, Int.reduceLE, Int.reduceLT, Int.reduceEq, Int.reduceToNat, Int.reduceAdd, Int.reduceSub, Int.reduceMul, Int.reduceNeg, hw'] <;> rfl)) ?_
  refine a_op ?_
  refine a_op ?_
  refine a_go ?_
  refine a_go ?_
  refine a_op ?_
  refine a_op ?_
  refine a_no ?_
  refine a_no ?_
  refine a_op ?_
  refine a_op ?_
  refine s_nil (r_false ?_)
  refine q_next ?_
  refine k_seq ?_
  refine k_region rfl ?_
  iterate 4 refine a_op ?_
  refine a_cv8 ?_
  rw [hk8]
  refine a_op ?_
  first | refine a_text ?_ | refine a_texts ?_
  refine a_call [] true ((by have h := Get_good Γ hE (k8 :: [0, 0, 0, 0, 0, 0, 0, 0]) (by simp); rw [got_kind hb4, Option.getD_none, Option.isSome_none] at h; exact h)) ?_
  iterate 6 refine a_op ?_
  refine s_nil (r_false ?_)
  refine q_next ?_
  refine k_seq ?_
  refine k_region rfl ?_
  refine a_op ?_
  refine a_call [] false ((by have h := May_good Γ (.mk kind 0 [] []); rw [hm] at h; exact h)) ?_
  iterate 3 refine a_op ?_
  refine a_go ?_
  refine a_callgo [] false ((by have h := Put_good Γ (.mk kind 0 [] []) (fun h => by rw [hm] at h; cases h); rw [hp] at h; exact h)) ?_
  refine a_go ?_
  refine a_go ?_
  refine a_go ?_
  refine a_op ?_
  refine a_op ?_
  refine a_go ?_
  refine a_go ?_
  refine a_op ?_
  refine a_op ?_
  refine a_go ?_
  refine a_go ?_
  refine a_callgo [.r 5 17 0] true (List_good Γ [(.mk kind 0 [] [])] (by simp [Wr.szL, Wr.sz])) ?_
  refine a_callgo [] false ((by have h := May_good Γ (.mk 3 0 [] [(.mk kind 0 [] [])]); rw [hm2] at h; exact h)) ?_
  refine a_go ?_
  refine a_go ?_
  refine a_op ?_
  refine a_op ?_
  refine a_callgo [] false (awake_good Γ hE) ?_
  refine a_op ?_
  refine a_op ?_
  refine s_nil (r_false ?_)
  refine q_next ?_
  refine k_ret ?_
  refine ⟨.inr rfl, a_ret [] (by rw [results8]) ?_ ?_ ?_⟩ <;> simp [-List.map_set, -List.map_replicate, -List.reduceReplicate, -List.map_map, -List.map_drop, -List.map_take, num, bol, txt, w8, w16, w32, w64, lst, cls, rowO, boxO, List.take_of_length_le, Wr.cellsL_len, wA, Wr.k_mk, Wr.n_mk, Wr.s_mk, Wr.l_mk, Wr.cellsL, Wr.z_eq]

theorem kinds_good (Γ : Gl) (hE : EG Γ) (kind : Int) (which : UInt8) : Go.Ot.Good Γ prog 8 [.t (num kind), .t (w8 which)] [] (.t (bol true)) [] [] := by
  have hj : which.toNat % 7 = 0 ∨ which.toNat % 7 = 1 ∨ which.toNat % 7 = 2 ∨ which.toNat % 7 = 3 ∨ which.toNat % 7 = 4 ∨ which.toNat % 7 = 5 ∨ which.toNat % 7 = 6 := by omega
  rcases hj with h | h | h | h | h | h | h
  · exact kinds0_good Γ hE which kind h
  · exact kinds1_good Γ hE which kind h
  · exact kinds2_good Γ hE which kind h
  · exact kinds3_good Γ hE which kind h
  · exact kinds4_good Γ hE which kind h
  · exact kinds5_good Γ hE which kind h
  · have hk : kind = 1 ∨ kind = 2 ∨ kind = 3 ∨ 3 < kind ∨ kind < 1 := by omega
    rcases hk with rfl | rfl | rfl | hk | hk
    · exact kindsa_good Γ hE which h
    · exact kindsb_good Γ hE which h
    · exact kindsc_good Γ hE which h
    · exact kindsd_good Γ hE which kind h hk
    · exact kindse_good Γ hE which kind h hk
end Go.Proofs.Tryd
