/- Contracts of this program's functions. -/
import Derived.Test.YtkbikblijipceaaGreatDoorSQ0
import Derived.Test.YtkbikblijipceaaGreatDoorSQE
set_option maxHeartbeats 4000000
set_option maxRecDepth 100000
set_option linter.unusedVariables false
set_option linter.unusedSimpArgs false
namespace Go.Proofs.Tryz
open Go Go.Ot
attribute [local irreducible] wpK wpS seqK blockK loopF regK meetK OpSpec Le rdS lpW rdW got mayS mayW ixF putS putW nb nbS u64 fmT PutW Rq.p Rp.p GQ GP tsz wTs
theorem bad_nil (Γ : Gl)  : Go.Ot.Good Γ prog 90 [.t (.v .nilIface)] [] (.t (bol false)) [] [] := by
 refine a_body F.mix func90 (by rfl) ntmps90 ?_
 refine k_seq ?_
 refine k_region rfl ?_
 refine a_op ?_
 refine s_nil (r_false ?_)
 refine q_next ?_
 refine k_seq ?_
 refine k_region rfl ?_
 refine a_op ?_
 refine a_op ?_
 refine a_call [] false (rq_isnil_good Γ [99, 117, 116, 32, 115, 104, 111, 114, 116]) ?_
 refine a_op ?_
 refine a_go ?_
 refine a_go ?_
 refine a_callgo [] false (rq_isnil_good Γ [115, 111, 109, 101, 116, 104, 105, 110, 103, 32, 101, 108, 115, 101]) ?_
 refine a_op ?_
 refine a_op ?_
 refine s_nil (r_false ?_)
 refine q_next ?_
 refine k_ret ?_
 refine ⟨.inr rfl, a_ret [] (by rw [results90]) ?_ ?_ ?_⟩ <;> simp [-List.map_set, -List.map_replicate, -List.reduceReplicate, -List.map_map, -List.map_drop, -List.map_take, num, bol, txt, w8, w16, w32, w64, lst, cls, rowO, boxO, List.take_of_length_le]

theorem bad_cut (Γ : Gl) (p : List UInt8) : Go.Ot.Good Γ prog 90 [.t (.ifc 181 (.agg [txt p, .ifc 179 (txt [99, 117, 116, 32, 115, 104, 111, 114, 116])]))] [] (.t (bol true)) [] [] := by
 refine a_body F.mix func90 (by rfl) ntmps90 ?_
 refine k_seq ?_
 refine k_region rfl ?_
 refine a_op ?_
 refine s_nil (r_false ?_)
 refine q_next ?_
 refine k_seq ?_
 refine k_region rfl ?_
 refine a_op ?_
 refine a_op ?_
 refine a_call [] false (rq_is_good Γ p [99, 117, 116, 32, 115, 104, 111, 114, 116] [99, 117, 116, 32, 115, 104, 111, 114, 116] true rq_eq_cc) ?_
 refine a_op ?_
 refine a_no ?_
 refine a_no ?_
 refine a_no ?_
 refine a_op ?_
 refine a_op ?_
 refine s_nil (r_false ?_)
 refine q_next ?_
 refine k_ret ?_
 refine ⟨.inr rfl, a_ret [] (by rw [results90]) ?_ ?_ ?_⟩ <;> simp [-List.map_set, -List.map_replicate, -List.reduceReplicate, -List.map_map, -List.map_drop, -List.map_take, num, bol, txt, w8, w16, w32, w64, lst, cls, rowO, boxO, List.take_of_length_le]

theorem bad_form (Γ : Gl) (p : List UInt8) : Go.Ot.Good Γ prog 90 [.t (.ifc 181 (.agg [txt p, .ifc 179 (txt [115, 111, 109, 101, 116, 104, 105, 110, 103, 32, 101, 108, 115, 101])]))] [] (.t (bol true)) [] [] := by
 refine a_body F.mix func90 (by rfl) ntmps90 ?_
 refine k_seq ?_
 refine k_region rfl ?_
 refine a_op ?_
 refine s_nil (r_false ?_)
 refine q_next ?_
 refine k_seq ?_
 refine k_region rfl ?_
 refine a_op ?_
 refine a_op ?_
 refine a_call [] false (rq_is_good Γ p [115, 111, 109, 101, 116, 104, 105, 110, 103, 32, 101, 108, 115, 101] [99, 117, 116, 32, 115, 104, 111, 114, 116] false rq_eq_fc) ?_
 refine a_op ?_
 refine a_go ?_
 refine a_go ?_
 refine a_callgo [] false (rq_is_good Γ p [115, 111, 109, 101, 116, 104, 105, 110, 103, 32, 101, 108, 115, 101] [115, 111, 109, 101, 116, 104, 105, 110, 103, 32, 101, 108, 115, 101] true rq_eq_ff) ?_
 refine a_op ?_
 refine a_op ?_
 refine s_nil (r_false ?_)
 refine q_next ?_
 refine k_ret ?_
 refine ⟨.inr rfl, a_ret [] (by rw [results90]) ?_ ?_ ?_⟩ <;> simp [-List.map_set, -List.map_replicate, -List.reduceReplicate, -List.map_map, -List.map_drop, -List.map_take, num, bol, txt, w8, w16, w32, w64, lst, cls, rowO, boxO, List.take_of_length_le]

theorem parts_nil (Γ : Gl) (hE : EG Γ) (p : List UInt8) : Go.Ot.Good Γ prog 89 [.t (txt p), .t (txt [])] [] (.tup [.t (.v (.slice none 0 0)), .t (.ifc 181 (.agg [txt p, .ifc 179 (txt [99, 117, 116, 32, 115, 104, 111, 114, 116])]))]) [] [] := by
 refine a_body F.mix func89 (by rfl) ntmps89 ?_
 refine k_seq ?_
 refine k_region rfl ?_
 refine a_op ?_
 refine a_op ?_
 refine s_nil (r_false ?_)
 refine q_next ?_
 refine k_seq ?_
 refine k_region rfl ?_
 refine a_op ?_
 refine a_call [] true ((by have h := Get_good Γ hE ([]) (by decide); rw [got_nil, Option.getD_none, Option.isSome_none] at h; exact h)) ?_
 iterate 6 refine a_op ?_
 refine s_nil (r_false ?_)
 refine q_next ?_
 refine k_seq ?_
 refine k_block ?_
 refine k_seq ?_
 refine k_region rfl ?_
 iterate 3 refine a_op ?_
 refine s_nil (r_false ?_)
 refine q_next ?_
 refine a_true ?_
 refine k_seq ?_
 refine k_region rfl ?_
 iterate 6 refine a_op ?_
 refine s_nil (r_false ?_)
 refine q_next ?_
 refine k_ret ?_
 refine q_block_ret (q_seq_ret ?_)
 refine ⟨.inr rfl, a_ret [] (by rw [results89]) ?_ ?_ ?_⟩ <;> simp [-List.map_set, -List.map_replicate, -List.reduceReplicate, -List.map_map, -List.map_drop, -List.map_take, num, bol, txt, w8, w16, w32, w64, lst, cls, rowO, boxO, List.take_of_length_le, Wr.cellsL_len, wA, Wr.k_mk, Wr.n_mk, Wr.s_mk, Wr.l_mk, Wr.cellsL, Wr.z_eq]

theorem parts_no (Γ : Gl) (hE : EG Γ) (p s : List UInt8) (hs : s.length ≤ 1000000) (h0 : s ≠ []) (hg : got s = none) : Go.Ot.Good Γ prog 89 [.t (txt p), .t (txt s)] [] (.tup [.t (.v (.slice none 0 0)), .t (.ifc 181 (.agg [txt p, .ifc 179 (txt [115, 111, 109, 101, 116, 104, 105, 110, 103, 32, 101, 108, 115, 101])]))]) [] [] := by
 have hb := beq_ne h0
 refine a_body F.mix func89 (by rfl) ntmps89 ?_
 refine k_seq ?_
 refine k_region rfl ?_
 refine a_op ?_
 refine a_op ?_
 refine s_nil (r_false ?_)
 refine q_next ?_
 refine k_seq ?_
 refine k_region rfl ?_
 refine a_op ?_
 refine a_call [] true ((by have h := Get_good Γ hE (s) (hs); rw [hg, Option.getD_none, Option.isSome_none] at h; exact h)) ?_
 iterate 6 refine a_op ?_
 refine s_nil (r_false ?_)
 refine q_next ?_
 refine k_seq ?_
 refine k_block ?_
 refine k_seq ?_
 refine k_region rfl ?_
 refine a_op ?_
 refine a_op (hs := by (simp (disch := first | omega | (simp only [List.length_drop, List.length_take, List.length_map, List.length_append, List.length_cons, List.length_nil, List.length_replicate, List.length_set] <;> omega) | (simp only [push_cast] <;> omega) | fail) only [push_cast, reduceCtorEq, Nat.reduceAdd, Nat.reduceSub, Nat.reduceMul, Nat.reduceEqDiff, Nat.reduceLT, Nat.reduceLeDiff, Nat.reduceMod, Nat.reduceDiv, Int.reduceLE, Int.reduceLT, Int.reduceEq, Int.reduceToNat, Int.reduceAdd, Int.reduceSub, Int.reduceMul, Int.reduceNeg, hb] <;> rfl)) ?_
 refine a_op ?_
 refine s_nil (r_false ?_)
 refine q_next ?_
 refine a_false ?_
 refine k_seq ?_
 refine k_region rfl ?_
 iterate 3 refine a_op ?_
 refine a_no ?_
 refine a_no ?_
 refine a_no ?_
 refine a_no ?_
 refine a_op ?_
 refine a_op ?_
 refine s_nil (r_false ?_)
 refine q_next ?_
 refine a_true ?_
 refine k_seq ?_
 refine k_region rfl ?_
 iterate 6 refine a_op ?_
 refine s_nil (r_false ?_)
 refine q_next ?_
 refine k_ret ?_
 refine q_block_ret (q_seq_ret ?_)
 refine ⟨.inr rfl, a_ret [] (by rw [results89]) ?_ ?_ ?_⟩ <;> simp [-List.map_set, -List.map_replicate, -List.reduceReplicate, -List.map_map, -List.map_drop, -List.map_take, num, bol, txt, w8, w16, w32, w64, lst, cls, rowO, boxO, List.take_of_length_le, Wr.cellsL_len, wA, Wr.k_mk, Wr.n_mk, Wr.s_mk, Wr.l_mk, Wr.cellsL, Wr.z_eq]

theorem parts_no4 (Γ : Gl) (hE : EG Γ) (p s : List UInt8) (hs : s.length ≤ 1000000) (W : Wr) (hg : got s = some W) (h4 : W.l.length ≠ 4) : Go.Ot.Good Γ prog 89 [.t (txt p), .t (txt s)] [] (.tup [.t (.v (.slice none 0 0)), .t (.ifc 181 (.agg [txt p, .ifc 179 (txt [115, 111, 109, 101, 116, 104, 105, 110, 103, 32, 101, 108, 115, 101])]))]) [] [] := by
 have hb := beq_ne (s_ne hg)
 have h4' : ¬ ((W.l.length : Int) = 4) := by omega
 refine a_body F.mix func89 (by rfl) ntmps89 ?_
 refine k_seq ?_
 refine k_region rfl ?_
 refine a_op ?_
 refine a_op ?_
 refine s_nil (r_false ?_)
 refine q_next ?_
 refine k_seq ?_
 refine k_region rfl ?_
 refine a_op ?_
 refine a_call [] true ((by have h := Get_good Γ hE (s) (hs); rw [hg, Option.getD_some, Option.isSome_some] at h; exact h)) ?_
 iterate 6 refine a_op ?_
 refine s_nil (r_false ?_)
 refine q_next ?_
 refine k_seq ?_
 refine k_block ?_
 refine k_seq ?_
 refine k_region rfl ?_
 refine a_op ?_
 refine a_op (hs := by (simp (disch := first | omega | (simp only [List.length_drop, List.length_take, List.length_map, List.length_append, List.length_cons, List.length_nil, List.length_replicate, List.length_set] <;> omega) | (simp only [push_cast] <;> omega) | fail) only [push_cast, reduceCtorEq, Nat.reduceAdd, Nat.reduceSub, Nat.reduceMul, Nat.reduceEqDiff, Nat.reduceLT, Nat.reduceLeDiff, Nat.reduceMod, Nat.reduceDiv, Int.reduceLE, Int.reduceLT, Int.reduceEq, Int.reduceToNat, Int.reduceAdd, Int.reduceSub, Int.reduceMul, Int.reduceNeg, hb] <;> rfl)) ?_
 refine a_op ?_
 refine s_nil (r_false ?_)
 refine q_next ?_
 refine a_false ?_
 refine k_seq ?_
 refine k_region rfl ?_
 iterate 3 refine a_op ?_
 refine a_go ?_
 refine a_go ?_
 refine a_go ?_
 refine a_go (hs := by (simp (disch := first | omega | (simp only [List.length_drop, List.length_take, List.length_map, List.length_append, List.length_cons, List.length_nil, List.length_replicate, List.length_set] <;> omega) | (simp only [push_cast] <;> omega) | fail) only [push_cast, reduceCtorEq, Nat.reduceAdd, Nat.reduceSub, Nat.reduceMul, Nat.reduceEqDiff, Nat.reduceLT, Nat.reduceLeDiff, Nat.reduceMod, Nat.reduceDiv, Int.reduceLE, Int.reduceLT, Int.reduceEq, Int.reduceToNat, Int.reduceAdd, Int.reduceSub, Int.reduceMul, Int.reduceNeg, h4'] <;> rfl)) ?_
 refine a_op ?_
 refine a_op ?_
 refine s_nil (r_false ?_)
 refine q_next ?_
 refine a_true ?_
 refine k_seq ?_
 refine k_region rfl ?_
 iterate 6 refine a_op ?_
 refine s_nil (r_false ?_)
 refine q_next ?_
 refine k_ret ?_
 refine q_block_ret (q_seq_ret ?_)
 refine ⟨.inr rfl, a_ret [] (by rw [results89]) ?_ ?_ ?_⟩ <;> simp [-List.map_set, -List.map_replicate, -List.reduceReplicate, -List.map_map, -List.map_drop, -List.map_take, num, bol, txt, w8, w16, w32, w64, lst, cls, rowO, boxO, List.take_of_length_le, Wr.cellsL_len, wA, Wr.k_mk, Wr.n_mk, Wr.s_mk, Wr.l_mk, Wr.cellsL, Wr.z_eq]

theorem parts_ok (Γ : Gl) (hE : EG Γ) (p s : List UInt8) (hs : s.length ≤ 1000000) (W : Wr) (hg : got s = some W) (h4 : W.l.length = 4) : Go.Ot.Good Γ prog 89 [.t (txt p), .t (txt s)] [] (.tup [wS W.l, .t (.v .nilIface)]) [] [] := by
 have hb := beq_ne (s_ne hg)
 refine a_body F.mix func89 (by rfl) ntmps89 ?_
 refine k_seq ?_
 refine k_region rfl ?_
 refine a_op ?_
 refine a_op ?_
 refine s_nil (r_false ?_)
 refine q_next ?_
 refine k_seq ?_
 refine k_region rfl ?_
 refine a_op ?_
 refine a_call [] true ((by have h := Get_good Γ hE (s) (hs); rw [hg, Option.getD_some, Option.isSome_some] at h; exact h)) ?_
 iterate 6 refine a_op ?_
 refine s_nil (r_false ?_)
 refine q_next ?_
 refine k_seq ?_
 refine k_block ?_
 refine k_seq ?_
 refine k_region rfl ?_
 refine a_op ?_
 refine a_op (hs := by (simp (disch := first | omega | (simp only [List.length_drop, List.length_take, List.length_map, List.length_append, List.length_cons, List.length_nil, List.length_replicate, List.length_set] <;> omega) | (simp only [push_cast] <;> omega) | fail) only [push_cast, reduceCtorEq, Nat.reduceAdd, Nat.reduceSub, Nat.reduceMul, Nat.reduceEqDiff, Nat.reduceLT, Nat.reduceLeDiff, Nat.reduceMod, Nat.reduceDiv, Int.reduceLE, Int.reduceLT, Int.reduceEq, Int.reduceToNat, Int.reduceAdd, Int.reduceSub, Int.reduceMul, Int.reduceNeg, hb] <;> rfl)) ?_
 refine a_op ?_
 refine s_nil (r_false ?_)
 refine q_next ?_
 refine a_false ?_
 refine k_seq ?_
 refine k_region rfl ?_
 iterate 3 refine a_op ?_
 refine a_go ?_
 refine a_go ?_
 refine a_go (hs := by (simp (disch := first | omega | (simp only [List.length_drop, List.length_take, List.length_map, List.length_append, List.length_cons, List.length_nil, List.length_replicate, List.length_set] <;> omega) | (simp only [push_cast] <;> omega) | fail) only [push_cast, reduceCtorEq, Nat.reduceAdd, Nat.reduceSub, Nat.reduceMul, Nat.reduceEqDiff, Nat.reduceLT, Nat.reduceLeDiff, Nat.reduceMod, Nat.reduceDiv, Int.reduceLE, Int.reduceLT, Int.reduceEq, Int.reduceToNat, Int.reduceAdd, Int.reduceSub, Int.reduceMul, Int.reduceNeg, h4] <;> rfl)) ?_
 refine a_go ?_
 refine a_op ?_
 refine a_op ?_
 refine s_nil (r_false ?_)
 refine q_next ?_
 refine a_false ?_
 refine k_skip ?_
 refine q_block (q_next ?_)
 refine k_seq ?_
 refine k_region rfl ?_
 iterate 4 refine a_op ?_
 refine s_nil (r_false ?_)
 refine q_next ?_
 refine k_ret ?_
 refine ⟨.inr rfl, a_ret [] (by rw [results89]) ?_ ?_ ?_⟩ <;> simp [-List.map_set, -List.map_replicate, -List.reduceReplicate, -List.map_map, -List.map_drop, -List.map_take, num, bol, txt, w8, w16, w32, w64, lst, cls, rowO, boxO, List.take_of_length_le, Wr.cellsL_len, wA, Wr.k_mk, Wr.n_mk, Wr.s_mk, Wr.l_mk, Wr.cellsL, Wr.z_eq, wS, h4]

theorem rqPut_good (Γ : Gl) (q : Rq) : Go.Ot.Good Γ prog 91 [qA q] [] (.t (txt q.p)) [] [] := by
 refine a_body F.mix func91 (by rfl) ntmps91 ?_
 refine k_seq ?_
 refine k_region rfl ?_
 refine a_op ?_
 refine a_op ?_
 refine s_nil (r_false ?_)
 refine q_next ?_
 refine k_seq ?_
 refine k_region rfl ?_
 refine a_opd ?_
 refine a_opd ?_
 refine a_calld [] false (Num_good Γ q.k) ?_
 refine a_opd ?_
 refine a_opd ?_
 refine a_calld [] false (Num_good Γ q.d) ?_
 refine a_opd ?_
 refine a_opd ?_
 refine a_calld [] false (Num_good Γ q.n) ?_
 refine a_opd ?_
 refine a_opd ?_
 refine a_calld [] false (Text_good Γ q.b) ?_
 refine a_opd ?_
 refine a_calld [.r 1 12 0] true (List_good Γ [.mk 1 q.k [] [], .mk 1 q.d [] [], .mk 1 q.n [] [], .mk 2 0 q.b []] (by simp [Wr.szL, Wr.sz])) ?_
 refine a_calld [] false (Put_good Γ (rqW q.k q.d q.n q.b) (fun h => by have := rq_len (q := q) h; exact Nat.le_trans this (by omega))) ?_
 refine a_opd ?_
 refine s_nil (r_true (by kernel_rfl) ?_)
 refine q_next ?_
 refine k_ret ?_
 refine ⟨.inr rfl, a_ret [] (by rw [results91]) ?_ ?_ ?_⟩ <;> simp [-List.map_set, -List.map_replicate, -List.reduceReplicate, -List.map_map, -List.map_drop, -List.map_take, num, bol, txt, w8, w16, w32, w64, lst, cls, rowO, boxO, List.take_of_length_le, Wr.cellsL_len, wA, Wr.k_mk, Wr.n_mk, Wr.s_mk, Wr.l_mk, Wr.cellsL, Wr.z_eq, Rq.p, Rq.w]

theorem rpPut_good (Γ : Gl) (q : Rp) (hq : tsz q.l ≤ 10000000) (hl : q.l.length ≤ 900000) : Go.Ot.Good Γ prog 37 [pA q] [] (.t (txt q.p)) [] [] := by
 refine a_body F.mix func37 (by rfl) ntmps37 ?_
 refine k_seq ?_
 refine k_region rfl ?_
 refine a_op ?_
 refine a_op ?_
 refine s_nil (r_false ?_)
 refine q_next ?_
 refine k_seq ?_
 refine k_region rfl ?_
 refine a_op ?_
 refine s_nil (r_false ?_)
 refine q_next ?_
 refine k_seq ?_
 refine k_seq ?_
 refine k_region rfl ?_
 iterate 4 refine a_op ?_
 refine s_nil (r_false ?_)
 refine q_next ?_
 refine k_block ?_
 refine k_loopF (fun sl L (i : Nat) => ⟨setAll (setBad sl [0, 5, 6, 10, 11, 12, 13, 14, 15, 16, 17, 18]) [(3, .msl (.n 9) 0 i 4), (9, .t (num i))], Go.Ot.look (putL (.n 9) (rowW (txtsW (q.l.take i))) L)⟩) (fun i => i ≤ q.l.length) (fun i => q.l.length - i) (0) (a_le ?_) ?_ ?_
 ·refine le_of [(.r 0 0 0, .r 0 0 0)] ?_ ?_ ?_ <;> simp [-List.map_set, -List.map_replicate, -List.reduceReplicate, -List.map_map, -List.map_drop, -List.map_take, num, bol, txt, w8, w16, w32, w64, lst, cls, rowO, boxO, List.take_of_length_le, Wr.cellsL_len, wA, Wr.k_mk, Wr.n_mk, Wr.s_mk, Wr.l_mk, Wr.cellsL, Wr.z_eq, rowW, txtsW_nil]
 ·(first | omega | simp)
 ·intro i hi
  refine a_st ?_
  refine k_seq ?_
  refine k_region rfl ?_
  refine a_op ?_
  refine s_nil (r_false ?_)
  refine q_next ?_
  refine k_seq ?_
  refine a_if (fun hc0 => ?_) (fun hc0 => ?_)
  ·(try simp only [Bool.and_eq_true, Bool.or_eq_true, Bool.or_eq_false_iff, Bool.not_eq_true', Bool.not_eq_false', dec_t, dec_f, Bool.and_eq_false_imp, beq_iff_eq, beq_eq_false_iff_ne, ne_eq] at hc0)
   refine k_skip ?_
   refine q_next ?_
   refine k_seq ?_
   refine k_block ?_
   refine k_seq ?_
   refine k_region rfl ?_
   iterate 3 refine a_op ?_
   refine s_nil (r_false ?_)
   refine q_next ?_
   refine k_region rfl ?_
   refine a_op ?_
   refine a_op ?_
   refine a_call [] false (Text_good Γ (q.l.getD i [])) ?_
   iterate 3 refine a_op ?_
   refine s_nil (r_false ?_)
   refine q_block (q_next ?_)
   refine k_region rfl ?_
   refine a_op ?_
   refine a_op ?_
   refine s_nil (r_false ?_)
   have hil : i < q.l.length := by omega
   refine q_loopF (i + 1) (a_le ?_) ?_ ?_
   ·refine le_of [(.r 0 0 0, .r 0 0 0), (.n 9, .n 9)] ?_ ?_ ?_ <;> simp [-List.map_set, -List.map_replicate, -List.reduceReplicate, -List.map_map, -List.map_drop, -List.map_take, num, bol, txt, w8, w16, w32, w64, lst, cls, rowO, boxO, List.take_of_length_le, Wr.cellsL_len, wA, Wr.k_mk, Wr.n_mk, Wr.s_mk, Wr.l_mk, Wr.cellsL, Wr.z_eq, rowW, txtsW_next hil, cells_app, wC]
   ·(first | omega | (simp_all <;> omega))
   ·(first | omega | (simp only []; omega))
  ·(try simp only [Bool.and_eq_true, Bool.or_eq_true, Bool.or_eq_false_iff, Bool.not_eq_true', Bool.not_eq_false', dec_t, dec_f, Bool.and_eq_false_imp, beq_iff_eq, beq_eq_false_iff_ne, ne_eq] at hc0)
   refine k_exit ?_
   refine q_seq_exit (q_loopF_exit (q_block_exit (q_next ?_)))
   refine k_seq ?_
   refine k_region rfl ?_
   have hil : i = q.l.length := by omega
   subst hil
   refine a_opd ?_
   refine a_opd ?_
   refine a_calld [] false (Num_good Γ q.k) ?_
   refine a_opd ?_
   refine a_opd ?_
   refine a_calld [] false (Num_good Γ q.d) ?_
   refine a_opd ?_
   refine a_opd ?_
   refine a_calld [] false (Num_good Γ q.n) ?_
   refine a_opd ?_
   refine a_calld [.n 9] true (List_good Γ (txtsW q.l) (by rw [szL_txts]; omega)) ?_ (hv := by (simp (disch := first | omega | (simp only [List.length_drop, List.length_take, List.length_map, List.length_append, List.length_cons, List.length_nil, List.length_replicate, List.length_set] <;> omega) | fail) [-List.map_map, -List.map_drop, -List.map_take, VwL_cons, VwL_nil, Vw_bad, Vw_t, Vw_ptr, Vw_msl, Vw_rop, Vw_agg, Vw_tup, Vw_ifc, VwT_refl, VwL_refl_map, Vw_nilmsl, VwT_msl, VwT_agg, VwT_v, VwT_nil, VwTs_cons, VwTs_nil, VwTs_refl, VwTs_app, List.take_of_length_le, srcL, notIn, ObsVw, SrcOk, pOk, Go.Ot.look, resP, resN, ev, evc, mkS, push_cast, List.take_of_length_le, cells_allT, txtsW_len] <;> (try omega)))
   refine a_opd ?_
   refine a_calld [.r 7 11 0] true (List_good Γ [.mk 1 q.k [] [], .mk 1 q.d [] [], .mk 1 q.n [] [], .mk 3 0 [] (txtsW q.l)] (by simp [Wr.szL, Wr.sz, szL_txts]; omega)) ?_
   refine a_calld [] false (Put_good Γ (rpW q.k q.d q.n q.l) (fun h => by have := rp_len (q := q) h; exact Nat.le_trans this (by omega))) ?_
   refine a_opd ?_
   refine s_nil (r_true (by kernel_rfl) ?_)
   refine q_next ?_
   refine k_ret ?_
   refine ⟨.inr rfl, a_ret [] (by rw [results37]) ?_ ?_ ?_⟩ <;> simp [-List.map_set, -List.map_replicate, -List.reduceReplicate, -List.map_map, -List.map_drop, -List.map_take, num, bol, txt, w8, w16, w32, w64, lst, cls, rowO, boxO, List.take_of_length_le, Wr.cellsL_len, wA, Wr.k_mk, Wr.n_mk, Wr.s_mk, Wr.l_mk, Wr.cellsL, Wr.z_eq, Rp.p, Rp.w]

theorem Getq_nil (Γ : Gl) (hE : EG Γ) : Go.Ot.Good Γ prog 36 [.t (txt [])] [] (.tup [qA Rq.z, .t (bol false)]) [] [] := by
 refine a_body F.mix func36 (by rfl) ntmps36 ?_
 refine k_seq ?_
 refine k_region rfl ?_
 refine a_op ?_
 refine a_op ?_
 refine s_nil (r_false ?_)
 refine q_next ?_
 refine k_seq ?_
 refine k_region rfl ?_
 refine a_op ?_
 refine a_call [] false (parts_nil Γ hE [114, 101, 113, 117, 101, 115, 116]) ?_
 iterate 5 refine a_op ?_
 refine s_nil (r_false ?_)
 refine q_next ?_
 refine k_seq ?_
 refine k_seq ?_
 refine k_region rfl ?_
 refine a_op ?_
 refine a_call [] false (bad_cut Γ [114, 101, 113, 117, 101, 115, 116]) ?_
 refine s_nil (r_false ?_)
 refine q_next ?_
 refine a_true ?_
 refine k_seq ?_
 refine k_region rfl ?_
 iterate 3 refine a_op ?_
 refine s_nil (r_false ?_)
 refine q_next ?_
 refine k_ret ?_
 refine q_seq_ret ?_
 refine ⟨.inr rfl, a_ret [] (by rw [results36]) ?_ ?_ ?_⟩ <;> simp [-List.map_set, -List.map_replicate, -List.reduceReplicate, -List.map_map, -List.map_drop, -List.map_take, num, bol, txt, w8, w16, w32, w64, lst, cls, rowO, boxO, List.take_of_length_le, Wr.cellsL_len, wA, Wr.k_mk, Wr.n_mk, Wr.s_mk, Wr.l_mk, Wr.cellsL, Wr.z_eq, Rq.z, Rp.z, qA, pA]

theorem Getq_no (Γ : Gl) (hE : EG Γ) (s : List UInt8) (hs : s.length ≤ 1000000) (h0 : s ≠ []) (hg : got s = none) : Go.Ot.Good Γ prog 36 [.t (txt s)] [] (.tup [qA Rq.z, .t (bol false)]) [] [] := by
 refine a_body F.mix func36 (by rfl) ntmps36 ?_
 refine k_seq ?_
 refine k_region rfl ?_
 refine a_op ?_
 refine a_op ?_
 refine s_nil (r_false ?_)
 refine q_next ?_
 refine k_seq ?_
 refine k_region rfl ?_
 refine a_op ?_
 refine a_call [] false (parts_no Γ hE [114, 101, 113, 117, 101, 115, 116] s hs h0 hg) ?_
 iterate 5 refine a_op ?_
 refine s_nil (r_false ?_)
 refine q_next ?_
 refine k_seq ?_
 refine k_seq ?_
 refine k_region rfl ?_
 refine a_op ?_
 refine a_call [] false (bad_form Γ [114, 101, 113, 117, 101, 115, 116]) ?_
 refine s_nil (r_false ?_)
 refine q_next ?_
 refine a_true ?_
 refine k_seq ?_
 refine k_region rfl ?_
 iterate 3 refine a_op ?_
 refine s_nil (r_false ?_)
 refine q_next ?_
 refine k_ret ?_
 refine q_seq_ret ?_
 refine ⟨.inr rfl, a_ret [] (by rw [results36]) ?_ ?_ ?_⟩ <;> simp [-List.map_set, -List.map_replicate, -List.reduceReplicate, -List.map_map, -List.map_drop, -List.map_take, num, bol, txt, w8, w16, w32, w64, lst, cls, rowO, boxO, List.take_of_length_le, Wr.cellsL_len, wA, Wr.k_mk, Wr.n_mk, Wr.s_mk, Wr.l_mk, Wr.cellsL, Wr.z_eq, Rq.z, Rp.z, qA, pA]

theorem Getq_no4 (Γ : Gl) (hE : EG Γ) (s : List UInt8) (hs : s.length ≤ 1000000) (W : Wr) (hg : got s = some W) (h4 : W.l.length ≠ 4) : Go.Ot.Good Γ prog 36 [.t (txt s)] [] (.tup [qA Rq.z, .t (bol false)]) [] [] := by
 refine a_body F.mix func36 (by rfl) ntmps36 ?_
 refine k_seq ?_
 refine k_region rfl ?_
 refine a_op ?_
 refine a_op ?_
 refine s_nil (r_false ?_)
 refine q_next ?_
 refine k_seq ?_
 refine k_region rfl ?_
 refine a_op ?_
 refine a_call [] false (parts_no4 Γ hE [114, 101, 113, 117, 101, 115, 116] s hs W hg h4) ?_
 iterate 5 refine a_op ?_
 refine s_nil (r_false ?_)
 refine q_next ?_
 refine k_seq ?_
 refine k_seq ?_
 refine k_region rfl ?_
 refine a_op ?_
 refine a_call [] false (bad_form Γ [114, 101, 113, 117, 101, 115, 116]) ?_
 refine s_nil (r_false ?_)
 refine q_next ?_
 refine a_true ?_
 refine k_seq ?_
 refine k_region rfl ?_
 iterate 3 refine a_op ?_
 refine s_nil (r_false ?_)
 refine q_next ?_
 refine k_ret ?_
 refine q_seq_ret ?_
 refine ⟨.inr rfl, a_ret [] (by rw [results36]) ?_ ?_ ?_⟩ <;> simp [-List.map_set, -List.map_replicate, -List.reduceReplicate, -List.map_map, -List.map_drop, -List.map_take, num, bol, txt, w8, w16, w32, w64, lst, cls, rowO, boxO, List.take_of_length_le, Wr.cellsL_len, wA, Wr.k_mk, Wr.n_mk, Wr.s_mk, Wr.l_mk, Wr.cellsL, Wr.z_eq, Rq.z, Rp.z, qA, pA]




theorem Getq_four (Γ : Gl) (hE : EG Γ) (s : List UInt8) (hs : s.length ≤ 1000000) (W a b c d : Wr) (hg : got s = some W) (hl : W.l = [a, b, c, d]) : Go.Ot.Good Γ prog 36 [.t (txt s)] [] ((if (⟨a.n, b.n, c.n, d.s⟩ : Rq).p = s then .tup [qA (⟨a.n, b.n, c.n, d.s⟩ : Rq), .t (bol true)] else .tup [qA Rq.z, .t (bol false)])) [] [] := by
 refine a_body F.mix func36 (by rfl) ntmps36 ?_
 refine k_seq ?_
 refine k_region rfl ?_
 refine a_op ?_
 refine a_op ?_
 refine s_nil (r_false ?_)
 refine q_next ?_
 refine k_seq ?_
 refine k_region rfl ?_
 refine a_op ?_
 refine a_call [] true ((by have h := parts_ok Γ hE [114, 101, 113, 117, 101, 115, 116] s hs W hg (by rw [hl]; rfl); rw [hl] at h; exact h)) ?_
 iterate 5 refine a_op ?_
 refine s_nil (r_false ?_)
 refine q_next ?_
 refine k_seq ?_
 refine k_seq ?_
 refine k_region rfl ?_
 refine a_op ?_
 refine a_call [] false (bad_nil Γ) ?_
 refine s_nil (r_false ?_)
 refine q_next ?_
 refine a_false ?_
 refine k_skip ?_
 refine q_next ?_
 refine k_seq ?_
 refine k_region rfl ?_
 iterate 19 refine a_opd ?_
 refine s_nil (r_true (by kernel_rfl) ?_)
 refine q_next ?_
 refine k_seq ?_
 refine k_seq ?_
 refine k_region rfl ?_
 refine a_op ?_
 refine a_call [] false (rqPut_good Γ (⟨a.n, b.n, c.n, d.s⟩ : Rq)) ?_
 refine a_op ?_
 refine a_op ?_
 refine s_nil (r_false ?_)
 refine q_next ?_
 refine a_if (fun hc1 => ?_) (fun hc1 => ?_)
 ·(try simp only [Bool.and_eq_true, Bool.or_eq_true, Bool.or_eq_false_iff, Bool.not_eq_true', Bool.not_eq_false', dec_t, dec_f, Bool.and_eq_false_imp, beq_iff_eq, beq_eq_false_iff_ne, ne_eq] at hc1)
  have he : (⟨a.n, b.n, c.n, d.s⟩ : Rq).p ≠ s := by simpa using hc1
  refine k_seq ?_
  refine k_region rfl ?_
  iterate 3 refine a_op ?_
  refine s_nil (r_false ?_)
  refine q_next ?_
  refine k_ret ?_
  refine q_seq_ret ?_
  refine ⟨.inr rfl, a_ret [] (by rw [results36]) ?_ ?_ ?_⟩ <;> simp [-List.map_set, -List.map_replicate, -List.reduceReplicate, -List.map_map, -List.map_drop, -List.map_take, num, bol, txt, w8, w16, w32, w64, lst, cls, rowO, boxO, List.take_of_length_le, Wr.cellsL_len, wA, Wr.k_mk, Wr.n_mk, Wr.s_mk, Wr.l_mk, Wr.cellsL, Wr.z_eq, Rq.z, qA, he]
 ·(try simp only [Bool.and_eq_true, Bool.or_eq_true, Bool.or_eq_false_iff, Bool.not_eq_true', Bool.not_eq_false', dec_t, dec_f, Bool.and_eq_false_imp, beq_iff_eq, beq_eq_false_iff_ne, ne_eq] at hc1)
  have he : (⟨a.n, b.n, c.n, d.s⟩ : Rq).p = s := by simpa using hc1
  refine k_skip ?_
  refine q_next ?_
  refine k_seq ?_
  refine k_region rfl ?_
  iterate 3 refine a_op ?_
  refine s_nil (r_false ?_)
  refine q_next ?_
  refine k_ret ?_
  refine ⟨.inr rfl, a_ret [] (by rw [results36]) ?_ ?_ ?_⟩ <;> simp [-List.map_set, -List.map_replicate, -List.reduceReplicate, -List.map_map, -List.map_drop, -List.map_take, num, bol, txt, w8, w16, w32, w64, lst, cls, rowO, boxO, List.take_of_length_le, Wr.cellsL_len, wA, Wr.k_mk, Wr.n_mk, Wr.s_mk, Wr.l_mk, Wr.cellsL, Wr.z_eq, Rq.z, qA, he]


def ansQ : Option Rq → D
 | some q => .tup [qA q, .t (bol true)]
 | none => .tup [qA Rq.z, .t (bol false)]
theorem ansQ_some (q : Rq) : ansQ (some q) = .tup [qA q, .t (bol true)] := rfl
theorem ansQ_none : ansQ none = .tup [qA Rq.z, .t (bol false)] := rfl
theorem Getq_good (Γ : Gl) (hE : EG Γ) (s : List UInt8) (hs : s.length ≤ 1000000) : Go.Ot.Good Γ prog 36 [.t (txt s)] [] (ansQ (GQ s)) [] [] := by
 by_cases h0 : s = []
 ·subst h0; rw [GQ_no got_nil, ansQ_none]; exact Getq_nil Γ hE
 ·cases hg : got s with
  | none => rw [GQ_no hg, ansQ_none]; exact Getq_no Γ hE s hs h0 hg
  | some W =>
   by_cases h4 : W.l.length = 4
   ·obtain ⟨a, b, c, d, hl⟩ := four_of h4
    have hp := (part_four hl).1
    have h := Getq_four Γ hE s hs W a b c d hg hl
    by_cases he : (qOf W).p = s
    ·rw [GQ_y hg he, ansQ_some]; rw [hp] at he ⊢; rw [if_pos he] at h; exact h
    ·rw [GQ_n hg he, ansQ_none]; rw [hp] at he; rw [if_neg he] at h; exact h
   ·rw [GQ_no4 hg h4, ansQ_none]; exact Getq_no4 Γ hE s hs W hg h4

end Go.Proofs.Tryz
