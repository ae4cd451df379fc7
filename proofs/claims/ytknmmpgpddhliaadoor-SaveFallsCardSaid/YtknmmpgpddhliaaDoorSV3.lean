/- Contracts of this program's functions. -/
import Derived.Test.YtknmmpgpddhliaaDoorSV2
set_option maxHeartbeats 4000000
set_option maxRecDepth 100000
set_option linter.unusedVariables false
set_option linter.unusedSimpArgs false
namespace Go.Proofs.Tryd
open Go Go.Ot Ce
attribute [local irreducible] wpK wpS seqK blockK loopF regK meetK OpSpec Le rdS lpW rdW got mayS mayW putS putW nb u64 PutW nowF sideF opn enc
theorem write_ok (Γ : Gl) (s : Nat → List UInt8) (cr ct : Int) (k : Int) (hk : 0 ≤ k ∧ k ≤ 1000000) (m : Nat) (hm : (k + 1) % 2 = (m : Int)) (t : List UInt8) (ht : t.length ≤ 16777216) (last : List UInt8) (hb : -4611686018427387904 ≤ ct ∧ ct + 2 ≤ 4611686018427387904) (h1 : ct + 1 ≠ cr) (h2 : ct + 2 ≠ cr) (dead : Bool) : Go.Ot.Good Γ prog 21 [.ptr (.p 0) 0, .t (txt t)] [boxO 49 [.ptr (.p 1) 0, .t (num (k)), .t (txt (last)), .t (bol (dead))], boxO 47 [.t (txt (s 0)), .t (txt (s 1)), .t (txt (s 2)), .t (txt (s 3)), .t (.v (.slice none 0 0)), .t (num (cr)), .t (.v (.slice none 0 0)), .t (num (ct)), .t (bol (false))]] (.t (.v .nilIface)) [some (boxO 49 [.ptr (.p 1) 0, .t (num (k)), .t (txt (last)), .t (bol (dead))]), some (boxO 47 [.t (txt ((Ce.upd s m (enc (k + 1) t)) 0)), .t (txt ((Ce.upd s m (enc (k + 1) t)) 1)), .t (txt ((Ce.upd s m (enc (k + 1) t)) 2)), .t (txt ((Ce.upd s m (enc (k + 1) t)) 3)), .t (.v (.slice none 0 0)), .t (num (cr)), .t (.v (.slice none 0 0)), .t (num (ct + 2)), .t (bol (false))])] [] := by
  have hpl := num_plen (k + 1)
  have hm2 : m < 2 := by omega
  have hmt : (k + 1).tmod 2 = (m : Int) := by rw [Int.tmod_eq_emod_of_nonneg (by omega)]; exact hm
  refine a_body F.mix func21 (by rfl) ntmps21 ?_
  refine k_seq ?_
  refine k_region rfl ?_
  refine a_op ?_
  refine s_nil (r_false ?_)
  refine q_next ?_
  refine k_seq ?_
  refine k_region rfl ?_
  iterate 5 refine a_op ?_
  refine a_op (hs := by (simp (disch := first | omega | (simp only [List.length_drop, List.length_take, List.length_map, List.length_append, List.length_cons, List.length_nil, List.length_replicate, List.length_set] <;> omega) | (simp only [push_cast] <;> omega) | fail) only [push_cast, reduceCtorEq, Nat.reduceAdd, Nat.reduceSub, Nat.reduceMul, Nat.reduceEqDiff, Nat.reduceLT, Nat.reduceLeDiff, Nat.reduceMod, Nat.reduceDiv, Int.reduceLE, Int.reduceLT, Int.reduceEq, Int.reduceToNat, Int.reduceAdd, Int.reduceSub, Int.reduceMul, Int.reduceNeg, hm, hmt] <;> rfl)) ?_
  refine a_op ?_
  refine s_nil (r_false ?_)
  refine q_next ?_
  refine k_seq ?_
  refine k_region rfl ?_
  iterate 5 refine a_op ?_
  refine a_call [] false (Num_good Γ (k + 1)) ?_
  refine a_call [] false (Put_good Γ (.mk 1 (k + 1) [] []) (put_imp (by omega))) ?_
  refine a_op ?_
  refine s_nil (r_false ?_)
  refine q_next ?_
  refine k_seq ?_
  refine k_seq ?_
  refine k_region rfl ?_
  iterate 9 refine a_op ?_
  refine a_callp [.p 1] [] [] false (Ce.wr_okN Γ s cr ct m (PutW (.mk 1 (k + 1) [] []) ++ t) (by omega) (by omega) (by omega)) ?_
  refine a_call [] false (of_ok Γ m) ?_
  refine a_op ?_
  refine s_nil (r_false ?_)
  refine q_next ?_
  refine k_seq ?_
  refine k_region rfl ?_
  refine a_op ?_
  refine a_nilnil true ?_
  refine s_nil (r_false ?_)
  refine q_next ?_
  refine a_false ?_
  refine k_skip ?_
  refine q_next ?_
  refine k_seq ?_
  refine k_region rfl ?_
  iterate 5 refine a_op ?_
  refine a_callp [.p 1, .r 3 9 0] [] [.r 3 9 0] false (Ce.sy_okR Γ s [(m, (PutW (.mk 1 (k + 1) [] []) ++ t))] (by simp) (in4_one (by omega)) cr (ct + 1) (by omega) (by omega)) ?_
  refine a_call [] false (of_ok Γ m) ?_
  refine a_op ?_
  refine s_nil (r_false ?_)
  refine q_next ?_
  refine k_ret ?_
  refine ⟨.inr rfl, a_ret [(.p 0, .p 0), (.p 1, .p 1)] (by rw [results21]) ?_ ?_ ?_⟩ <;> simp [-List.map_set, -List.map_replicate, -List.reduceReplicate, -List.map_map, -List.map_drop, -List.map_take, num, bol, txt, w8, w16, w32, w64, lst, cls, rowO, boxO, List.take_of_length_le, Wr.cellsL_len, wA, Wr.k_mk, Wr.n_mk, Wr.s_mk, Wr.l_mk, Wr.cellsL, Wr.z_eq, enc, nowF1, Int.add_assoc]

theorem write_w13 (Γ : Gl) (hE : EG Γ) (s : Nat → List UInt8) (cr ct : Int) (k : Int) (hk : 0 ≤ k ∧ k ≤ 1000000) (m : Nat) (hm : (k + 1) % 2 = (m : Int)) (t : List UInt8) (ht : t.length ≤ 16777216) (last : List UInt8) (hb : -4611686018427387904 ≤ ct ∧ ct + 2 ≤ 4611686018427387904) (h1 : ct + 1 = cr) (dead : Bool) : Go.Ot.Good Γ prog 21 [.ptr (.p 0) 0, .t (txt t)] [boxO 49 [.ptr (.p 1) 0, .t (num (k)), .t (txt (last)), .t (bol (dead))], boxO 47 [.t (txt (s 0)), .t (txt (s 1)), .t (txt (s 2)), .t (txt (s 3)), .t (.v (.slice none 0 0)), .t (num (cr)), .t (.v (.slice none 0 0)), .t (num (ct)), .t (bol (false))]] (.t (erS 13 m)) [some (boxO 49 [.ptr (.p 1) 0, .t (num (k)), .t (txt (last)), .t (bol (dead))]), some (boxO 47 [.t (txt (s 0)), .t (txt (s 1)), .t (txt (s 2)), .t (txt (s 3)), .t (.v (.slice none 0 0)), .t (num (cr)), .t (.v (.slice none 0 0)), .t (num (ct + 1)), .t (bol (true))])] [] := by
  have hpl := num_plen (k + 1)
  have hm2 : m < 2 := by omega
  have hmt : (k + 1).tmod 2 = (m : Int) := by rw [Int.tmod_eq_emod_of_nonneg (by omega)]; exact hm
  refine a_body F.mix func21 (by rfl) ntmps21 ?_
  refine k_seq ?_
  refine k_region rfl ?_
  refine a_op ?_
  refine s_nil (r_false ?_)
  refine q_next ?_
  refine k_seq ?_
  refine k_region rfl ?_
  iterate 5 refine a_op ?_
  refine a_op (hs := by (simp (disch := first | omega | (simp only [List.length_drop, List.length_take, List.length_map, List.length_append, List.length_cons, List.length_nil, List.length_replicate, List.length_set] <;> omega) | (simp only [push_cast] <;> omega) | fail) only [push_cast, reduceCtorEq, Nat.reduceAdd, Nat.reduceSub, Nat.reduceMul, Nat.reduceEqDiff, Nat.reduceLT, Nat.reduceLeDiff, Nat.reduceMod, Nat.reduceDiv, Int.reduceLE, Int.reduceLT, Int.reduceEq, Int.reduceToNat, Int.reduceAdd, Int.reduceSub, Int.reduceMul, Int.reduceNeg, hm, hmt] <;> rfl)) ?_
  refine a_op ?_
  refine s_nil (r_false ?_)
  refine q_next ?_
  refine k_seq ?_
  refine k_region rfl ?_
  iterate 5 refine a_op ?_
  refine a_call [] false (Num_good Γ (k + 1)) ?_
  refine a_call [] false (Put_good Γ (.mk 1 (k + 1) [] []) (put_imp (by omega))) ?_
  refine a_op ?_
  refine s_nil (r_false ?_)
  refine q_next ?_
  refine k_seq ?_
  refine k_seq ?_
  refine k_region rfl ?_
  iterate 9 refine a_op ?_
  refine a_callp [.p 1] [] [] false (Ce.wr_lastN Γ hE s cr ct m (PutW (.mk 1 (k + 1) [] []) ++ t) (by omega) (by omega) (by omega) (by omega)) ?_
  refine a_call [] false (of_er Γ m 13 (by decide)) ?_
  refine a_op ?_
  refine s_nil (r_false ?_)
  refine q_next ?_
  refine k_seq ?_
  refine k_region rfl ?_
  refine a_op ?_
  refine a_isnil true ?_
  refine s_nil (r_false ?_)
  refine q_next ?_
  refine a_true ?_
  refine k_seq ?_
  refine k_region rfl ?_
  refine a_op ?_
  refine a_op ?_
  refine s_nil (r_false ?_)
  refine q_next ?_
  refine k_ret ?_
  refine q_seq_ret ?_
  refine ⟨.inr rfl, a_ret [(.p 0, .p 0), (.p 1, .p 1)] (by rw [results21]) ?_ ?_ ?_⟩ <;> simp [-List.map_set, -List.map_replicate, -List.reduceReplicate, -List.map_map, -List.map_drop, -List.map_take, num, bol, txt, w8, w16, w32, w64, lst, cls, rowO, boxO, List.take_of_length_le, Wr.cellsL_len, wA, Wr.k_mk, Wr.n_mk, Wr.s_mk, Wr.l_mk, Wr.cellsL, Wr.z_eq, erS_eq]

theorem write_s13 (Γ : Gl) (hE : EG Γ) (s : Nat → List UInt8) (cr ct : Int) (k : Int) (hk : 0 ≤ k ∧ k ≤ 1000000) (m : Nat) (hm : (k + 1) % 2 = (m : Int)) (t : List UInt8) (ht : t.length ≤ 16777216) (last : List UInt8) (hb : -4611686018427387904 ≤ ct ∧ ct + 2 ≤ 4611686018427387904) (h1 : ct + 1 ≠ cr) (h2 : ct + 2 = cr) (dead : Bool) : Go.Ot.Good Γ prog 21 [.ptr (.p 0) 0, .t (txt t)] [boxO 49 [.ptr (.p 1) 0, .t (num (k)), .t (txt (last)), .t (bol (dead))], boxO 47 [.t (txt (s 0)), .t (txt (s 1)), .t (txt (s 2)), .t (txt (s 3)), .t (.v (.slice none 0 0)), .t (num (cr)), .t (.v (.slice none 0 0)), .t (num (ct)), .t (bol (false))]] (.t (erS 13 m)) [some (boxO 49 [.ptr (.p 1) 0, .t (num (k)), .t (txt (last)), .t (bol (dead))]), some (boxO 47 [.t (txt (s 0)), .t (txt (s 1)), .t (txt (s 2)), .t (txt (s 3)), .msl (.n 0) 0 1 2, .t (num (cr)), .t (.v (.slice none 0 0)), .t (num (ct + 2)), .t (bol (true))])] [⟨(chL [(m, enc (k + 1) t)]).map D.t, 56, true, true⟩] := by
  have hpl := num_plen (k + 1)
  have hm2 : m < 2 := by omega
  have hmt : (k + 1).tmod 2 = (m : Int) := by rw [Int.tmod_eq_emod_of_nonneg (by omega)]; exact hm
  refine a_body F.mix func21 (by rfl) ntmps21 ?_
  refine k_seq ?_
  refine k_region rfl ?_
  refine a_op ?_
  refine s_nil (r_false ?_)
  refine q_next ?_
  refine k_seq ?_
  refine k_region rfl ?_
  iterate 5 refine a_op ?_
  refine a_op (hs := by (simp (disch := first | omega | (simp only [List.length_drop, List.length_take, List.length_map, List.length_append, List.length_cons, List.length_nil, List.length_replicate, List.length_set] <;> omega) | (simp only [push_cast] <;> omega) | fail) only [push_cast, reduceCtorEq, Nat.reduceAdd, Nat.reduceSub, Nat.reduceMul, Nat.reduceEqDiff, Nat.reduceLT, Nat.reduceLeDiff, Nat.reduceMod, Nat.reduceDiv, Int.reduceLE, Int.reduceLT, Int.reduceEq, Int.reduceToNat, Int.reduceAdd, Int.reduceSub, Int.reduceMul, Int.reduceNeg, hm, hmt] <;> rfl)) ?_
  refine a_op ?_
  refine s_nil (r_false ?_)
  refine q_next ?_
  refine k_seq ?_
  refine k_region rfl ?_
  iterate 5 refine a_op ?_
  refine a_call [] false (Num_good Γ (k + 1)) ?_
  refine a_call [] false (Put_good Γ (.mk 1 (k + 1) [] []) (put_imp (by omega))) ?_
  refine a_op ?_
  refine s_nil (r_false ?_)
  refine q_next ?_
  refine k_seq ?_
  refine k_seq ?_
  refine k_region rfl ?_
  iterate 9 refine a_op ?_
  refine a_callp [.p 1] [] [] false (Ce.wr_okN Γ s cr ct m (PutW (.mk 1 (k + 1) [] []) ++ t) (by omega) (by omega) (by omega)) ?_
  refine a_call [] false (of_ok Γ m) ?_
  refine a_op ?_
  refine s_nil (r_false ?_)
  refine q_next ?_
  refine k_seq ?_
  refine k_region rfl ?_
  refine a_op ?_
  refine a_nilnil true ?_
  refine s_nil (r_false ?_)
  refine q_next ?_
  refine a_false ?_
  refine k_skip ?_
  refine q_next ?_
  refine k_seq ?_
  refine k_region rfl ?_
  iterate 5 refine a_op ?_
  refine a_callp [.p 1, .r 3 9 0] [] [.r 3 9 0] false (Ce.sy_lastR Γ hE s [(m, (PutW (.mk 1 (k + 1) [] []) ++ t))] (by simp) (in4_one (by omega)) cr (ct + 1) (by omega) (by omega)) ?_
  refine a_call [] false (of_er Γ m 13 (by decide)) ?_
  refine a_op ?_
  refine s_nil (r_false ?_)
  refine q_next ?_
  refine k_ret ?_
  refine ⟨.inr rfl, a_ret [(.p 0, .p 0), (.p 1, .p 1), (.n 0, .r 3 9 0)] (by rw [results21]) ?_ ?_ ?_⟩ <;> simp [-List.map_set, -List.map_replicate, -List.reduceReplicate, -List.map_map, -List.map_drop, -List.map_take, num, bol, txt, w8, w16, w32, w64, lst, cls, rowO, boxO, List.take_of_length_le, Wr.cellsL_len, wA, Wr.k_mk, Wr.n_mk, Wr.s_mk, Wr.l_mk, Wr.cellsL, Wr.z_eq, enc, erS_eq, Int.add_assoc]

end Go.Proofs.Tryd
