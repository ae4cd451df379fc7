/- Contracts of this program's functions. -/
import Derived.Test.YtkdmgjjcjjeopaaDoorSK0
set_option maxHeartbeats 4000000
set_option maxRecDepth 100000
set_option linter.unusedVariables false
set_option linter.unusedSimpArgs false
namespace Go.Proofs.Tryd
open Go Go.Ot
attribute [local irreducible] wpK wpS seqK blockK loopF regK meetK OpSpec Le rdS lpW rdW got mayS mayW ixF putS putW nb nbS u64 fmT PutW sameW sameL manyS manyN mfold makeN kids bnd
theorem make_step (Γ : Gl) (f : Nat) (s : List UInt8) (hs : s.length ≤ 80) (IH : ∀ ns : List UInt8, ns.length < f → Go.Ot.Good Γ prog 14 [.t (lst w8 ns), .t (txt s)] [] (wA (makeN s f ns)) [] []) (ns : List UInt8) (hr : ns.length < f + 1) (hf : f ≤ 1000) : Go.Ot.Good Γ prog 14 [.t (lst w8 ns), .t (txt s)] [] (wA (makeN s (f + 1) ns)) [] [] := by
  refine a_body F.mix func14 (by rfl) ntmps14 ?_
  refine k_seq ?_
  refine k_region rfl ?_
  refine a_op ?_
  refine s_nil (r_false ?_)
  refine q_next ?_
  refine k_seq ?_
  refine k_seq ?_
  refine k_region rfl ?_
  iterate 3 refine a_op ?_
  refine s_nil (r_false ?_)
  refine q_next ?_
  refine a_if (fun hc0 => ?_) (fun hc0 => ?_)
  · (try simp only [Bool.and_eq_true, Bool.or_eq_true, Bool.or_eq_false_iff, Bool.not_eq_true', Bool.not_eq_false', dec_t, dec_f, Bool.and_eq_false_imp, beq_iff_eq, beq_eq_false_iff_ne, ne_eq] at hc0)
    refine k_seq ?_
    refine k_region rfl ?_
    have he := make_nil s f (ns := ns) (by omega)
    refine a_call [] true (List_good Γ [] (by decide)) ?_
    refine a_op ?_
    refine s_nil (r_false ?_)
    refine q_next ?_
    refine k_ret ?_
    refine q_seq_ret ?_
    refine ⟨.inr rfl, a_ret [] (by rw [results14]) ?_ ?_ ?_⟩ <;> simp [-List.map_set, -List.map_replicate, -List.reduceReplicate, -List.map_map, -List.map_drop, -List.map_take, num, bol, txt, w8, w16, w32, w64, lst, cls, rowO, boxO, List.take_of_length_le, Wr.cellsL_len, wA, Wr.k_mk, Wr.n_mk, Wr.s_mk, Wr.l_mk, Wr.cellsL, Wr.z_eq, kids_len, he]
  · (try simp only [Bool.and_eq_true, Bool.or_eq_true, Bool.or_eq_false_iff, Bool.not_eq_true', Bool.not_eq_false', dec_t, dec_f, Bool.and_eq_false_imp, beq_iff_eq, beq_eq_false_iff_ne, ne_eq] at hc0)
    refine k_skip ?_
    refine q_next ?_
    refine k_seq ?_
    refine k_region rfl ?_
    have h0 : 0 < ns.length := by omega
    obtain ⟨a, ha⟩ : ∃ a, (ns.getD 0 0).toNat = a := ⟨_, rfl⟩
    have ha' : (ns[0]?.getD 0).toNat = a := by rw [List.getD_eq_getElem?_getD] at ha; exact ha
    have ha8 : a < 256 := by rw [← ha]; exact UInt8.toNat_lt _
    have hnum := make_num a ha8
    refine a_op ?_
    refine a_op ?_
    refine a_op (hs := by (simp (disch := first | omega | (simp only [List.length_drop, List.length_take, List.length_map, List.length_append, List.length_cons, List.length_nil, List.length_replicate, List.length_set] <;> omega) | (simp only [push_cast] <;> omega) | fail) only [push_cast, reduceCtorEq, Nat.reduceAdd, Nat.reduceSub, Nat.reduceMul, Nat.reduceEqDiff, Nat.reduceLT, Nat.reduceLeDiff, Nat.reduceMod, Nat.reduceDiv, Int.reduceLE, Int.reduceLT, Int.reduceEq, Int.reduceToNat, Int.reduceAdd, Int.reduceSub, Int.reduceMul, Int.reduceNeg, ha] <;> rfl)) ?_
    refine a_op ?_
    refine a_op ?_
    refine s_nil (r_false ?_)
    refine q_next ?_
    refine k_seq ?_
    refine k_seq ?_
    refine k_region rfl ?_
    refine a_op ?_
    refine a_op ?_
    refine s_nil (r_false ?_)
    refine q_next ?_
    refine k_block ?_
    refine k_seq ?_
    refine k_region rfl ?_
    have h3 : a % 3 = 0 ∨ a % 3 = 1 ∨ a % 3 = 2 := by omega
    rcases h3 with h | h | h
    · have hm3 : (a : Int) % 3 = ((a % 3 : Nat) : Int) := by omega
      refine a_op ?_
      refine a_op ?_
      refine s_nil (r_false ?_)
      refine q_next ?_
      refine a_true ?_
      refine k_seq ?_
      refine k_region rfl ?_
      have he := make_0 (s := s) (f := f) ha h0 h
      iterate 7 refine a_op ?_
      refine a_call [] false (Num_good Γ (((a : Int) - 100) * a * a * 65537)) ?_
      refine a_op ?_
      refine s_nil (r_false ?_)
      refine q_next ?_
      refine k_ret ?_
      refine q_block_ret (q_seq_ret ?_)
      refine ⟨.inr rfl, a_ret [] (by rw [results14]) ?_ ?_ ?_⟩ <;> simp [-List.map_set, -List.map_replicate, -List.reduceReplicate, -List.map_map, -List.map_drop, -List.map_take, num, bol, txt, w8, w16, w32, w64, lst, cls, rowO, boxO, List.take_of_length_le, Wr.cellsL_len, wA, Wr.k_mk, Wr.n_mk, Wr.s_mk, Wr.l_mk, Wr.cellsL, Wr.z_eq, kids_len, he]
    · have hm3 : (a : Int) % 3 = ((a % 3 : Nat) : Int) := by omega
      refine a_op ?_
      refine a_op ?_
      refine s_nil (r_false ?_)
      refine q_next ?_
      refine a_false ?_
      refine k_seq ?_
      refine k_region rfl ?_
      refine a_op ?_
      refine a_op ?_
      refine s_nil (r_false ?_)
      refine q_next ?_
      refine a_true ?_
      refine k_seq ?_
      refine k_region rfl ?_
      have he := make_1 (s := s) (f := f) ha h0 h
      have hmin : min (s.length : Int) ((a : Int) / 3) = ((min s.length (a / 3) : Nat) : Int) := by omega
      iterate 5 refine a_op ?_
      refine a_op (hs := by (simp (disch := first | omega | (simp only [List.length_drop, List.length_take, List.length_map, List.length_append, List.length_cons, List.length_nil, List.length_replicate, List.length_set] <;> omega) | (simp only [push_cast] <;> omega) | fail) only [push_cast, reduceCtorEq, Nat.reduceAdd, Nat.reduceSub, Nat.reduceMul, Nat.reduceEqDiff, Nat.reduceLT, Nat.reduceLeDiff, Nat.reduceMod, Nat.reduceDiv, Int.reduceLE, Int.reduceLT, Int.reduceEq, Int.reduceToNat, Int.reduceAdd, Int.reduceSub, Int.reduceMul, Int.reduceNeg, hmin] <;> rfl)) ?_
      refine a_op ?_
      refine a_call [] false (Text_good Γ (s.take (min s.length (a / 3)))) ?_
      refine a_op ?_
      refine s_nil (r_false ?_)
      refine q_next ?_
      refine k_ret ?_
      refine q_block_ret (q_seq_ret ?_)
      refine ⟨.inr rfl, a_ret [] (by rw [results14]) ?_ ?_ ?_⟩ <;> simp [-List.map_set, -List.map_replicate, -List.reduceReplicate, -List.map_map, -List.map_drop, -List.map_take, num, bol, txt, w8, w16, w32, w64, lst, cls, rowO, boxO, List.take_of_length_le, Wr.cellsL_len, wA, Wr.k_mk, Wr.n_mk, Wr.s_mk, Wr.l_mk, Wr.cellsL, Wr.z_eq, kids_len, he]
    · have hm3 : (a : Int) % 3 = ((a % 3 : Nat) : Int) := by omega
      refine a_op ?_
      refine a_op ?_
      refine s_nil (r_false ?_)
      refine q_next ?_
      refine a_false ?_
      refine k_seq ?_
      refine k_region rfl ?_
      refine a_op ?_
      refine a_op ?_
      refine s_nil (r_false ?_)
      refine q_next ?_
      refine a_false ?_
      refine k_skip ?_
      refine q_block (q_next ?_)
      refine k_seq ?_
      refine k_region rfl ?_
      refine a_op ?_
      refine s_nil (r_false ?_)
      refine q_next ?_
      refine k_seq ?_
      refine k_seq ?_
      refine k_region rfl ?_
      refine a_op ?_
      refine s_nil (r_false ?_)
      refine q_next ?_
      refine k_block ?_
      refine k_loopF (fun sl L (i : Nat) => ⟨setAll (setBad sl [8, 9, 10, 11, 12, 13, 14, 15, 16, 17, 18, 19, 20, 21, 22, 23, 24, 25, 26, 27, 28, 29, 30, 31, 32, 33, 34, 35, 36, 37, 38, 39, 40, 41, 42, 43, 44, 45, 46, 47, 48, 49, 50, 51, 52, 53, 54, 55, 56, 57, 58, 59, 60, 61, 62, 63, 64, 65, 66, 67]) [(6, .msl (.n 9) 0 i 4), (7, .t (num ((i : Int) + 1)))], Go.Ot.look (putL (.n 9) (rowW (kids s f ns i)) L)⟩) (fun i => i + 1 ≤ ns.length ∧ i ≤ a / 3 % 5) (fun i => ns.length - i) (0) (a_le ?_) ?_ ?_
      · refine le_of [(.r 0 0 0, .r 0 0 0)] ?_ ?_ ?_ <;> simp [-List.map_set, -List.map_replicate, -List.reduceReplicate, -List.map_map, -List.map_drop, -List.map_take, num, bol, txt, w8, w16, w32, w64, lst, cls, rowO, boxO, List.take_of_length_le, Wr.cellsL_len, wA, Wr.k_mk, Wr.n_mk, Wr.s_mk, Wr.l_mk, Wr.cellsL, Wr.z_eq, kids_len, rowW, kids_zero]
      · (first | omega | simp)
      · intro i hi
        refine a_st ?_
        refine k_seq ?_
        refine k_seq ?_
        refine k_region rfl ?_
        have h3 : (i + 1 < ns.length ∧ i < a / 3 % 5) ∨ (i + 1 < ns.length ∧ i = a / 3 % 5) ∨ i + 1 = ns.length := by omega
        rcases h3 with ⟨h4, h5⟩ | ⟨h4, h5⟩ | h4
        · skip
          iterate 5 refine a_op ?_
          refine a_go ?_
          refine a_go ?_
          refine a_go ?_
          refine a_go ?_
          refine a_go ?_
          refine a_op ?_
          refine s_nil (r_false ?_)
          refine q_next ?_
          refine a_true ?_
          refine k_skip ?_
          refine q_next ?_
          refine k_seq ?_
          refine k_block ?_
          refine k_region rfl ?_
          have hm1 : min (ns.length : Int) ((i : Int) + 1 + (a : Int) / 15 % 5 + 1) = ((min ns.length (i + 1 + a / 15 % 5 + 1) : Nat) : Int) := by omega
          have hi1 : ((i : Int) + 1).toNat = i + 1 := by omega
          have hkd := kid_len (ns := ns) (n := a) (j := i)
          iterate 11 refine a_op ?_
          refine a_op (hs := by (simp (disch := first | omega | (simp only [List.length_drop, List.length_take, List.length_map, List.length_append, List.length_cons, List.length_nil, List.length_replicate, List.length_set] <;> omega) | (simp only [push_cast] <;> omega) | fail) only [push_cast, reduceCtorEq, Nat.reduceAdd, Nat.reduceSub, Nat.reduceMul, Nat.reduceEqDiff, Nat.reduceLT, Nat.reduceLeDiff, Nat.reduceMod, Nat.reduceDiv, Int.reduceLE, Int.reduceLT, Int.reduceEq, Int.reduceToNat, Int.reduceAdd, Int.reduceSub, Int.reduceMul, Int.reduceNeg, hm1] <;> rfl)) ?_
          refine a_op (hs := by (simp (disch := first | omega | (simp only [List.length_drop, List.length_take, List.length_map, List.length_append, List.length_cons, List.length_nil, List.length_replicate, List.length_set] <;> omega) | (simp only [push_cast] <;> omega) | fail) only [push_cast, reduceCtorEq, Nat.reduceAdd, Nat.reduceSub, Nat.reduceMul, Nat.reduceEqDiff, Nat.reduceLT, Nat.reduceLeDiff, Nat.reduceMod, Nat.reduceDiv, Int.reduceLE, Int.reduceLT, Int.reduceEq, Int.reduceToNat, Int.reduceAdd, Int.reduceSub, Int.reduceMul, Int.reduceNeg, hi1] <;> rfl)) ?_
          refine a_op ?_
          refine a_call [] true ((by have h := IH (kid ns a i) (by omega); exact h)) ?_
          iterate 3 refine a_op ?_
          refine s_nil (r_false ?_)
          refine q_block (q_next ?_)
          refine k_region rfl ?_
          iterate 3 refine a_op ?_
          refine s_nil (r_false ?_)
          refine q_loopF (i + 1) (a_le ?_) ?_ ?_
          · refine le_of [(.r 0 0 0, .r 0 0 0), (.n 9, .n 9)] ?_ ?_ ?_ <;> simp [-List.map_set, -List.map_replicate, -List.reduceReplicate, -List.map_map, -List.map_drop, -List.map_take, num, bol, txt, w8, w16, w32, w64, lst, cls, rowO, boxO, List.take_of_length_le, Wr.cellsL_len, wA, Wr.k_mk, Wr.n_mk, Wr.s_mk, Wr.l_mk, Wr.cellsL, Wr.z_eq, kids_len, rowW, kids_next, ha', cells_app, wC]
          · (first | omega | (simp_all <;> omega))
          · (first | omega | (simp only []; omega))
        · skip
          iterate 5 refine a_op ?_
          refine a_go ?_
          refine a_go ?_
          refine a_go ?_
          refine a_go ?_
          refine a_go ?_
          refine a_op ?_
          refine s_nil (r_false ?_)
          refine q_next ?_
          refine a_false ?_
          refine k_exit ?_
          refine q_seq_exit (q_loopF_exit (q_block_exit (q_next ?_)))
          refine k_seq ?_
          refine k_region rfl ?_
          have hil : i = min (ns.length - 1) (a / 3 % 5) := by omega
          have he := make_2 (s := s) (f := f) ha h0 h
          rw [← hil] at he
          have hkl := kids_len s f ns i
          have hks := make_sz s (f + 1) ns
          rw [he] at hks
          have hbl := bnd_le ns.length
          have hkz : Wr.szL (kids s f ns i) ≤ 1000000 := by simp [Wr.sz] at hks; omega
          refine a_op ?_
          refine a_call [.n 9] true (List_good Γ (kids s f ns i) hkz) ?_ (hv := by (simp (disch := first | omega | (simp only [List.length_drop, List.length_take, List.length_map, List.length_append, List.length_cons, List.length_nil, List.length_replicate, List.length_set] <;> omega) | fail) [-List.map_map, -List.map_drop, -List.map_take, VwL_cons, VwL_nil, Vw_bad, Vw_t, Vw_ptr, Vw_msl, Vw_rop, Vw_agg, Vw_tup, Vw_ifc, VwT_refl, VwL_refl_map, Vw_nilmsl, VwT_msl, VwT_agg, VwT_v, VwT_nil, VwTs_cons, VwTs_nil, VwTs_refl, VwTs_app, List.take_of_length_le, srcL, notIn, ObsVw, SrcOk, pOk, Go.Ot.look, resP, resN, ev, evc, mkS, push_cast, List.take_of_length_le, kids_len, cells_all, hkl] <;> (try omega)))
          refine a_op ?_
          refine s_nil (r_false ?_)
          refine q_next ?_
          refine k_ret ?_
          refine ⟨.inr rfl, a_ret [] (by rw [results14]) ?_ ?_ ?_⟩ <;> simp [-List.map_set, -List.map_replicate, -List.reduceReplicate, -List.map_map, -List.map_drop, -List.map_take, num, bol, txt, w8, w16, w32, w64, lst, cls, rowO, boxO, List.take_of_length_le, Wr.cellsL_len, wA, Wr.k_mk, Wr.n_mk, Wr.s_mk, Wr.l_mk, Wr.cellsL, Wr.z_eq, kids_len, he]
        · skip
          iterate 5 refine a_op ?_
          refine a_no ?_
          refine a_no ?_
          refine a_no ?_
          refine a_no ?_
          refine a_no ?_
          refine a_op ?_
          refine s_nil (r_false ?_)
          refine q_next ?_
          refine a_false ?_
          refine k_exit ?_
          refine q_seq_exit (q_loopF_exit (q_block_exit (q_next ?_)))
          refine k_seq ?_
          refine k_region rfl ?_
          have hil : i = min (ns.length - 1) (a / 3 % 5) := by omega
          have he := make_2 (s := s) (f := f) ha h0 h
          rw [← hil] at he
          have hkl := kids_len s f ns i
          have hks := make_sz s (f + 1) ns
          rw [he] at hks
          have hbl := bnd_le ns.length
          have hkz : Wr.szL (kids s f ns i) ≤ 1000000 := by simp [Wr.sz] at hks; omega
          refine a_op ?_
          refine a_call [.n 9] true (List_good Γ (kids s f ns i) hkz) ?_ (hv := by (simp (disch := first | omega | (simp only [List.length_drop, List.length_take, List.length_map, List.length_append, List.length_cons, List.length_nil, List.length_replicate, List.length_set] <;> omega) | fail) [-List.map_map, -List.map_drop, -List.map_take, VwL_cons, VwL_nil, Vw_bad, Vw_t, Vw_ptr, Vw_msl, Vw_rop, Vw_agg, Vw_tup, Vw_ifc, VwT_refl, VwL_refl_map, Vw_nilmsl, VwT_msl, VwT_agg, VwT_v, VwT_nil, VwTs_cons, VwTs_nil, VwTs_refl, VwTs_app, List.take_of_length_le, srcL, notIn, ObsVw, SrcOk, pOk, Go.Ot.look, resP, resN, ev, evc, mkS, push_cast, List.take_of_length_le, kids_len, cells_all, hkl] <;> (try omega)))
          refine a_op ?_
          refine s_nil (r_false ?_)
          refine q_next ?_
          refine k_ret ?_
          refine ⟨.inr rfl, a_ret [] (by rw [results14]) ?_ ?_ ?_⟩ <;> simp [-List.map_set, -List.map_replicate, -List.reduceReplicate, -List.map_map, -List.map_drop, -List.map_take, num, bol, txt, w8, w16, w32, w64, lst, cls, rowO, boxO, List.take_of_length_le, Wr.cellsL_len, wA, Wr.k_mk, Wr.n_mk, Wr.s_mk, Wr.l_mk, Wr.cellsL, Wr.z_eq, kids_len, he]

theorem make_good (Γ : Gl) (s : List UInt8) (hs : s.length ≤ 80) : ∀ (f : Nat), f ≤ 1000 → ∀ ns : List UInt8, ns.length < f → Go.Ot.Good Γ prog 14 [.t (lst w8 ns), .t (txt s)] [] (wA (makeN s f ns)) [] []
  | 0, _, ns, h => by omega
  | f + 1, hf, ns, h => make_step Γ f s hs (fun ns hn => make_good Γ s hs f (by omega) ns hn) ns h (by omega)
end Go.Proofs.Tryd
