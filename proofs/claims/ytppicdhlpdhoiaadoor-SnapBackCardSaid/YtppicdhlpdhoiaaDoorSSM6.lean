/- Contracts of this program's functions. -/
import Derived.Test.YtppicdhlpdhoiaaDoorSSM5
set_option maxHeartbeats 4000000
set_option maxRecDepth 100000
set_option linter.unusedVariables false
set_option linter.unusedSimpArgs false
namespace Go.Proofs.Tryd
open Go Go.Ot

theorem mkN_s (ns : List UInt8) (k : Nat) : mkN ns (k + 1) = joS (mkN ns k) (doF (mkN ns k) ((ns.getD (2 * k) 0).toNat / 16 % 4 : Nat) (opN (ns.getD (2 * k) 0) (ns.getD (2 * k + 1) 0))) := rfl
theorem mkN_0 (ns : List UInt8) : mkN ns 0 = ⟨[], []⟩ := rfl
theorem joS_y {s : Sa} {x : Sa × Int} (h : x.2 = 0) : joS s x = joF s x.1 := if_pos h
theorem joS_n {s : Sa} {x : Sa × Int} (h : x.2 ≠ 0) : joS s x = s := if_neg h
theorem inv_b {M : Nat} (hM : M ≤ 2000) {s : Sa} (h : inv M s) : s.seen.length ≤ 100000 ∧ s.fs.length ≤ 100000 := by have := inv_few h; omega
attribute [local irreducible] wpK wpS seqK blockK loopF regK meetK OpSpec Le
theorem op_good (Γ : Gl) (a b : UInt8) : Go.Ot.Good Γ prog 16 [.t (w8 a), .t (w8 b)] [] (.agg [.t (num (opN a b).kind), .t (txt (opN a b).key), .t (txt (opN a b).item), .t (num (opN a b).n)]) [] [] := by
 have ha := a.toNat_lt
 have hb := b.toNat_lt
 refine a_body F.mix func16 (by rfl) ntmps16 ?_
 refine k_seq ?_
 refine k_region rfl ?_
 refine a_op ?_
 refine s_nil (r_false ?_)
 refine q_next ?_
 refine k_seq ?_
 refine k_region rfl ?_
 iterate 9 refine a_op ?_
 first | refine a_text ?_ | refine a_texts ?_
 iterate 4 refine a_op ?_
 first | refine a_text ?_ | refine a_texts ?_
 iterate 5 refine a_op ?_
 refine s_nil (r_false ?_)
 refine q_next ?_
 refine k_ret ?_
 refine ⟨.inr rfl, a_ret [] (by rw [results16]) ?_ ?_ ?_⟩ <;> simp [-List.map_set, -List.map_replicate, -List.reduceReplicate, -List.map_map, -List.map_drop, -List.map_take, num, bol, txt, w8, w16, w32, w64, lst, cls, rowO, boxO, List.take_of_length_le, Wr.cellsL_len, wA, Wr.k_mk, Wr.n_mk, Wr.s_mk, Wr.l_mk, Wr.cellsL, Wr.z_eq, rnT, ftT, opN]

theorem make_good (Γ : Gl) (ns : List UInt8) (hn : ns.length ≤ 9223372036854775807) : Go.Ot.Good Γ prog 9 [.t (lst w8 ns)] [] (.agg [.t (.sl (makF ns).seen.length ((makF ns).seen.flatMap rnT)), .t (.sl (makF ns).fs.length ((makF ns).fs.flatMap ftT))]) [] [] := by
 refine a_body F.mix func9 (by rfl) ntmps9 ?_
 refine k_seq ?_
 refine k_region rfl ?_
 refine a_op ?_
 refine s_nil (r_false ?_)
 refine q_next ?_
 refine k_seq ?_
 refine k_region rfl ?_
 refine a_op ?_
 refine s_nil (r_false ?_)
 refine q_next ?_
 refine k_seq ?_
 refine k_seq ?_
 refine k_region rfl ?_
 refine a_op ?_
 refine s_nil (r_false ?_)
 refine q_next ?_
 refine k_block ?_
 refine k_loopF (fun sl L (k : Nat) => ⟨setAll (setBad sl [5, 6, 7, 8, 9, 10, 11, 12, 13, 14, 15, 16, 17, 18, 19, 20, 21, 22, 23, 24, 25, 26, 27, 28, 29, 30, 31, 32, 33, 34, 35, 36, 37, 38, 39, 40, 41, 42]) [(4, .t (num (2 * (k : Int))))], Go.Ot.look (putL (.r 1 0 0) (boxO 28 [.t (.sl (mkN ns k).seen.length ((mkN ns k).seen.flatMap rnT)), .t (.sl (mkN ns k).fs.length ((mkN ns k).fs.flatMap ftT))]) L)⟩) (fun k => k ≤ min 40 (ns.length / 2)) (fun k => 40 - k) (0) (a_le ?_) ?_ ?_
 ·refine le_of [(.r 0 0 0, .r 0 0 0), (.r 1 0 0, .r 1 0 0)] ?_ ?_ ?_ <;> simp [-List.map_set, -List.map_replicate, -List.reduceReplicate, -List.map_map, -List.map_drop, -List.map_take, num, bol, txt, w8, w16, w32, w64, lst, cls, rowO, boxO, List.take_of_length_le, Wr.cellsL_len, wA, Wr.k_mk, Wr.n_mk, Wr.s_mk, Wr.l_mk, Wr.cellsL, Wr.z_eq, rnT, ftT, mkN_0] <;> (try omega)
 ·exact Nat.zero_le _
 ·intro k hk
  have hi1 := inv_mkN ns k
  obtain ⟨s, hs⟩ : ∃ s, mkN ns k = s := ⟨_, rfl⟩
  simp only [hs] at hi1 ⊢
  have hsb := inv_b (M := k) (by omega) hi1
  refine a_st ?_
  refine k_seq ?_
  refine k_seq ?_
  refine k_region rfl ?_
  rcases (show ns.length ≤ 2 * k + 1 ∨ (2 * k + 1 < ns.length ∧ k = 40) ∨ (2 * k + 1 < ns.length ∧ k < 40) by omega) with g | ⟨g, g2⟩ | ⟨g, g2⟩
  ·skip
   iterate 6 refine a_op ?_
   refine a_no ?_
   refine a_no ?_
   refine a_op ?_
   refine s_nil (r_false ?_)
   refine q_next ?_
   refine a_false ?_
   refine k_exit ?_
   refine q_seq_exit (q_loopF_exit (q_block_exit (q_next ?_)))
   refine k_seq ?_
   refine k_region rfl ?_
   have hq : makF ns = s := by rw [makF, show min 40 (ns.length / 2) = k from by omega]; exact hs
   refine a_op ?_
   refine a_op ?_
   refine s_nil (r_false ?_)
   refine q_next ?_
   refine k_ret ?_
   refine ⟨.inr rfl, a_ret [] (by rw [results9]) ?_ ?_ ?_⟩ <;> simp [-List.map_set, -List.map_replicate, -List.reduceReplicate, -List.map_map, -List.map_drop, -List.map_take, num, bol, txt, w8, w16, w32, w64, lst, cls, rowO, boxO, List.take_of_length_le, Wr.cellsL_len, wA, Wr.k_mk, Wr.n_mk, Wr.s_mk, Wr.l_mk, Wr.cellsL, Wr.z_eq, rnT, ftT, hq]
  ·skip
   iterate 6 refine a_op ?_
   refine a_go ?_
   refine a_go ?_
   refine a_op ?_
   refine s_nil (r_false ?_)
   refine q_next ?_
   refine a_false ?_
   refine k_exit ?_
   refine q_seq_exit (q_loopF_exit (q_block_exit (q_next ?_)))
   refine k_seq ?_
   refine k_region rfl ?_
   have hq : makF ns = s := by rw [makF, show min 40 (ns.length / 2) = k from by omega]; exact hs
   refine a_op ?_
   refine a_op ?_
   refine s_nil (r_false ?_)
   refine q_next ?_
   refine k_ret ?_
   refine ⟨.inr rfl, a_ret [] (by rw [results9]) ?_ ?_ ?_⟩ <;> simp [-List.map_set, -List.map_replicate, -List.reduceReplicate, -List.map_map, -List.map_drop, -List.map_take, num, bol, txt, w8, w16, w32, w64, lst, cls, rowO, boxO, List.take_of_length_le, Wr.cellsL_len, wA, Wr.k_mk, Wr.n_mk, Wr.s_mk, Wr.l_mk, Wr.cellsL, Wr.z_eq, rnT, ftT, hq]
  ·skip
   iterate 6 refine a_op ?_
   refine a_go ?_
   refine a_go ?_
   refine a_op ?_
   refine s_nil (r_false ?_)
   refine q_next ?_
   refine a_true ?_
   refine k_skip ?_
   refine q_next ?_
   refine k_seq ?_
   refine k_block ?_
   refine k_seq ?_
   refine k_region rfl ?_
   iterate 5 refine a_opd ?_
   obtain ⟨b0, hb0⟩ : ∃ b, ns.getD (2 * k) 0 = b := ⟨_, rfl⟩
   obtain ⟨b1, hb1⟩ : ∃ b, ns.getD (2 * k + 1) 0 = b := ⟨_, rfl⟩
   have hb0' : ns.getD (2 * (k : Int)).toNat 0 = b0 := by rw [show (2 * (k : Int)).toNat = 2 * k from by omega]; exact hb0
   have hb1' : ns.getD (2 * (k : Int) + 1).toNat 0 = b1 := by rw [show (2 * (k : Int) + 1).toNat = 2 * k + 1 from by omega]; exact hb1
   first | simp only [hb0] | simp only [hb0']
   obtain ⟨dd, hdd, hd4⟩ : ∃ d : Nat, b0.toNat / 16 % 4 = d ∧ d < 4 := ⟨_, rfl, by omega⟩
   have hb8 := b0.toNat_lt
   have hd6 : (b0.toNat : Int).tdiv 16 = (b0.toNat : Int) / 16 := Int.tdiv_eq_ediv_of_nonneg (by omega)
   have hdt : ((b0.toNat : Int) / 16).tmod 4 = dd := by rw [Int.tmod_eq_emod_of_nonneg (by omega)]; omega
   obtain ⟨x, hx⟩ : ∃ x, doF s dd (opN b0 b1) = x := ⟨_, rfl⟩
   refine a_opd ?_
   refine a_opd (hs := by (simp (disch := first | omega | (simp only [List.length_drop, List.length_take, List.length_map, List.length_append, List.length_cons, List.length_nil, List.length_replicate, List.length_set] <;> omega) | (simp only [push_cast] <;> omega) | fail) only [push_cast, reduceCtorEq, Nat.reduceAdd, Nat.reduceSub, Nat.reduceMul, Nat.reduceEqDiff, Nat.reduceLT, Nat.reduceLeDiff, Nat.reduceMod, Nat.reduceDiv, Int.reduceLE, Int.reduceLT, Int.reduceEq, Int.reduceToNat, Int.reduceAdd, Int.reduceSub, Int.reduceMul, Int.reduceNeg, hd6] <;> rfl)) ?_
   refine a_opd (hs := by (simp (disch := first | omega | (simp only [List.length_drop, List.length_take, List.length_map, List.length_append, List.length_cons, List.length_nil, List.length_replicate, List.length_set] <;> omega) | (simp only [push_cast] <;> omega) | fail) only [push_cast, reduceCtorEq, Nat.reduceAdd, Nat.reduceSub, Nat.reduceMul, Nat.reduceEqDiff, Nat.reduceLT, Nat.reduceLeDiff, Nat.reduceMod, Nat.reduceDiv, Int.reduceLE, Int.reduceLT, Int.reduceEq, Int.reduceToNat, Int.reduceAdd, Int.reduceSub, Int.reduceMul, Int.reduceNeg, hd6, hdt] <;> rfl)) ?_
   iterate 4 refine a_opd ?_
   first | simp only [hb0] | simp only [hb0']
   iterate 5 refine a_opd ?_
   first | simp only [hb1] | simp only [hb1']
   refine a_calld [] false (op_good Γ b0 b1) ?_
   refine a_calld [] true (do_good Γ k (by omega) s hi1 dd (by omega) (by omega) (opN b0 b1) (opN_ok b0 b1)) ?_
   simp only [hx]
   refine a_opd ?_
   refine a_opd ?_
   refine s_nil (r_true (by kernel_rfl) ?_)
   refine q_next ?_
   refine k_seq ?_
   refine k_region rfl ?_
   iterate 3 refine a_op ?_
   refine s_nil (r_false ?_)
   refine q_next ?_
   refine a_if (fun hc1 => ?_) (fun hc1 => ?_)
   ·(try simp only [Bool.and_eq_true, Bool.or_eq_true, Bool.or_eq_false_iff, Bool.not_eq_true', Bool.not_eq_false', dec_t, dec_f, Bool.and_eq_false_imp, beq_iff_eq, beq_eq_false_iff_ne, ne_eq] at hc1)
    have hnx : mkN ns (k + 1) = joF s x.1 := (mkN_s ns k).trans (by rw [hs, hb0, hb1, hdd, hx]; exact joS_y hc1)
    refine k_region rfl ?_
    iterate 3 refine a_op ?_
    have hxi := inv_do hi1 (dev := (dd : Int)) (by omega) (by omega) (opN_ok b0 b1) (by rw [hx]; exact hc1)
    rw [hx] at hxi
    have hxb := inv_b (M := k + 1) (by omega) hxi
    refine a_call [] true (join_good Γ s x.1 hsb.1 hxb.1 hi1.1.1 hxi.1.1 hsb.2 hxb.2) ?_
    refine a_op ?_
    refine s_nil (r_false ?_)
    refine q_block (q_next ?_)
    refine k_region rfl ?_
    iterate 3 refine a_op ?_
    refine s_nil (r_false ?_)
    refine q_loopF (k + 1) (a_le ?_) ?_ ?_
    ·refine le_of [(.r 0 0 0, .r 0 0 0), (.r 1 0 0, .r 1 0 0)] ?_ ?_ ?_ <;> simp [-List.map_set, -List.map_replicate, -List.reduceReplicate, -List.map_map, -List.map_drop, -List.map_take, num, bol, txt, w8, w16, w32, w64, lst, cls, rowO, boxO, List.take_of_length_le, Wr.cellsL_len, wA, Wr.k_mk, Wr.n_mk, Wr.s_mk, Wr.l_mk, Wr.cellsL, Wr.z_eq, rnT, ftT, hnx] <;> (try omega)
    ·(first | omega | (simp_all <;> omega))
    ·(first | omega | (simp only []; omega))
   ·(try simp only [Bool.and_eq_true, Bool.or_eq_true, Bool.or_eq_false_iff, Bool.not_eq_true', Bool.not_eq_false', dec_t, dec_f, Bool.and_eq_false_imp, beq_iff_eq, beq_eq_false_iff_ne, ne_eq] at hc1)
    have hnx : mkN ns (k + 1) = s := (mkN_s ns k).trans (by rw [hs, hb0, hb1, hdd, hx]; exact joS_n hc1)
    refine k_skip ?_
    refine q_block (q_next ?_)
    refine k_region rfl ?_
    iterate 3 refine a_op ?_
    refine s_nil (r_false ?_)
    refine q_loopF (k + 1) (a_le ?_) ?_ ?_
    ·refine le_of [(.r 0 0 0, .r 0 0 0), (.r 1 0 0, .r 1 0 0)] ?_ ?_ ?_ <;> simp [-List.map_set, -List.map_replicate, -List.reduceReplicate, -List.map_map, -List.map_drop, -List.map_take, num, bol, txt, w8, w16, w32, w64, lst, cls, rowO, boxO, List.take_of_length_le, Wr.cellsL_len, wA, Wr.k_mk, Wr.n_mk, Wr.s_mk, Wr.l_mk, Wr.cellsL, Wr.z_eq, rnT, ftT, hnx] <;> (try omega)
    ·(first | omega | (simp_all <;> omega))
    ·(first | omega | (simp only []; omega))

end Go.Proofs.Tryd
