/- Contracts of this program's functions. -/
import Derived.Test.YtknmmpgpddhliaaDoorSV9Q
import Derived.Test.YtknmmpgpddhliaaDoorSV11P
import Derived.Test.YtknmmpgpddhliaaDoorSV5
set_option maxHeartbeats 4000000
set_option maxRecDepth 100000
set_option linter.unusedVariables false
set_option linter.unusedSimpArgs false
namespace Go.Proofs.Tryd
open Go Go.Ot Ce
attribute [local irreducible] wpK wpS seqK blockK loopF regK meetK OpSpec Le rdS lpW rdW got mayS mayW putS putW nb u64 PutW nowF sideF opn enc Kp
theorem falls_good (Γ : Gl) (hE : EG Γ) (l : List (List UInt8)) (cx : UInt8) (ks : List Bool) (fs : List UInt8) (hl : l.length ≤ 9223372036854775807) (hks : ks.length ≤ 9223372036854775807) (hfs : fs.length ≤ 9223372036854775807) : Go.Ot.Good Γ prog 6 [.t (lst txt l), .t (w8 cx), .t (lst bol ks), .t (lst w8 fs)] [] (.t (bol true)) [] [] := by
  have hx8 := cx.toNat_lt
  obtain ⟨cr, hcr, hcr1, hcr2⟩ : ∃ cr : Int, 1 + (cx.toNat : Int) % 40 = cr ∧ 1 ≤ cr ∧ cr ≤ 40 := ⟨_, rfl, by omega, by omega⟩
  refine a_body F.mix func6 (by rfl) ntmps6 ?_
  refine k_seq ?_
  refine k_region rfl ?_
  refine a_op ?_
  refine s_nil (r_false ?_)
  refine q_next ?_
  refine k_seq ?_
  refine k_seq ?_
  refine k_region rfl ?_
  have h3 : 20 < l.length ∨ (l.length ≤ 20 ∧ 30 < ks.length) ∨ (l.length ≤ 20 ∧ ks.length ≤ 30 ∧ 5 < fs.length) ∨ (l.length ≤ 20 ∧ ks.length ≤ 30 ∧ fs.length ≤ 5) := by omega
  rcases h3 with hx | ⟨hx, hy⟩ | ⟨hx, hy, hz⟩ | ⟨hx, hy, hz⟩
  · skip
    iterate 4 refine a_op ?_
    refine a_no ?_
    refine a_no ?_
    refine a_no ?_
    refine a_op ?_
    refine a_op ?_
    refine a_no ?_
    refine a_no ?_
    refine a_no ?_
    refine a_op ?_
    refine s_nil (r_false ?_)
    refine q_next ?_
    refine a_true ?_
    refine k_seq ?_
    refine k_region rfl ?_
    refine a_call [] false (awake_good Γ hE) ?_
    refine a_op ?_
    refine s_nil (r_false ?_)
    refine q_next ?_
    refine k_ret ?_
    refine q_seq_ret ?_
    refine ⟨.inr rfl, a_ret [] (by rw [results6]) ?_ ?_ ?_⟩ <;> simp [-List.map_set, -List.map_replicate, -List.reduceReplicate, -List.map_map, -List.map_drop, -List.map_take, num, bol, txt, w8, w16, w32, w64, lst, cls, rowO, boxO, List.take_of_length_le, Wr.cellsL_len, wA, Wr.k_mk, Wr.n_mk, Wr.s_mk, Wr.l_mk, Wr.cellsL, Wr.z_eq]
  · skip
    iterate 4 refine a_op ?_
    refine a_go ?_
    refine a_go ?_
    refine a_go ?_
    refine a_op ?_
    refine a_op ?_
    refine a_no ?_
    refine a_no ?_
    refine a_no ?_
    refine a_op ?_
    refine s_nil (r_false ?_)
    refine q_next ?_
    refine a_true ?_
    refine k_seq ?_
    refine k_region rfl ?_
    refine a_call [] false (awake_good Γ hE) ?_
    refine a_op ?_
    refine s_nil (r_false ?_)
    refine q_next ?_
    refine k_ret ?_
    refine q_seq_ret ?_
    refine ⟨.inr rfl, a_ret [] (by rw [results6]) ?_ ?_ ?_⟩ <;> simp [-List.map_set, -List.map_replicate, -List.reduceReplicate, -List.map_map, -List.map_drop, -List.map_take, num, bol, txt, w8, w16, w32, w64, lst, cls, rowO, boxO, List.take_of_length_le, Wr.cellsL_len, wA, Wr.k_mk, Wr.n_mk, Wr.s_mk, Wr.l_mk, Wr.cellsL, Wr.z_eq]
  · skip
    iterate 4 refine a_op ?_
    refine a_go ?_
    refine a_go ?_
    refine a_go ?_
    refine a_op ?_
    refine a_op ?_
    refine a_go ?_
    refine a_go ?_
    refine a_go ?_
    refine a_op ?_
    refine s_nil (r_false ?_)
    refine q_next ?_
    refine a_true ?_
    refine k_seq ?_
    refine k_region rfl ?_
    refine a_call [] false (awake_good Γ hE) ?_
    refine a_op ?_
    refine s_nil (r_false ?_)
    refine q_next ?_
    refine k_ret ?_
    refine q_seq_ret ?_
    refine ⟨.inr rfl, a_ret [] (by rw [results6]) ?_ ?_ ?_⟩ <;> simp [-List.map_set, -List.map_replicate, -List.reduceReplicate, -List.map_map, -List.map_drop, -List.map_take, num, bol, txt, w8, w16, w32, w64, lst, cls, rowO, boxO, List.take_of_length_le, Wr.cellsL_len, wA, Wr.k_mk, Wr.n_mk, Wr.s_mk, Wr.l_mk, Wr.cellsL, Wr.z_eq]
  · skip
    iterate 4 refine a_op ?_
    refine a_go ?_
    refine a_go ?_
    refine a_go ?_
    refine a_op ?_
    refine a_op ?_
    refine a_go ?_
    refine a_go ?_
    refine a_go ?_
    refine a_op ?_
    refine s_nil (r_false ?_)
    refine q_next ?_
    refine a_false ?_
    refine k_skip ?_
    refine q_next ?_
    refine k_seq ?_
    refine k_region rfl ?_
    iterate 3 refine a_op ?_
    refine a_op (hs := by (simp (disch := first | omega | (simp only [List.length_drop, List.length_take, List.length_map, List.length_append, List.length_cons, List.length_nil, List.length_replicate, List.length_set] <;> omega) | (simp only [push_cast] <;> omega) | fail) only [push_cast, reduceCtorEq, Nat.reduceAdd, Nat.reduceSub, Nat.reduceMul, Nat.reduceEqDiff, Nat.reduceLT, Nat.reduceLeDiff, Nat.reduceMod, Nat.reduceDiv, Int.reduceLE, Int.reduceLT, Int.reduceEq, Int.reduceToNat, Int.reduceAdd, Int.reduceSub, Int.reduceMul, Int.reduceNeg, hcr] <;> rfl)) ?_
    refine a_op ?_
    refine a_call [] false (Ce.New_good Γ cr (.v (.slice none 0 0))) ?_
    refine a_op ?_
    refine s_nil (r_false ?_)
    refine q_next ?_
    refine k_seq ?_
    refine k_seq ?_
    refine k_region rfl ?_
    refine a_op ?_
    refine a_by (spec_ptrNil false rfl rfl (by kernel_rfl)) ?_
    refine s_nil (r_false ?_)
    refine q_next ?_
    refine a_false ?_
    refine k_skip ?_
    refine q_next ?_
    refine k_seq ?_
    refine k_region rfl ?_
    refine a_op ?_
    refine a_callp [.r 3 5 0] [] [] false (Open_new Γ hE cr 0) ?_
    iterate 5 refine a_op ?_
    refine s_nil (r_false ?_)
    refine q_next ?_
    refine k_seq ?_
    refine k_seq ?_
    refine k_region rfl ?_
    refine a_op ?_
    refine a_by (spec_ptrNil false rfl rfl (by kernel_rfl)) ?_
    refine a_op ?_
    refine a_no ?_
    refine a_no ?_
    refine a_no ?_
    refine a_no ?_
    refine a_no ?_
    refine a_no ?_
    refine a_no ?_
    refine a_no ?_
    refine a_op ?_
    refine s_nil (r_false ?_)
    refine q_next ?_
    refine a_false ?_
    refine k_skip ?_
    refine q_next ?_
    refine k_seq ?_
    refine k_region rfl ?_
    refine a_op ?_
    refine a_op ?_
    refine s_nil (r_false ?_)
    refine q_next ?_
    refine k_meetF (fun sl L (q : MQ) => ⟨setAll (setBad sl [0, 1, 8, 10, 11, 14, 23, 24, 25, 26, 27, 28, 29, 30, 31, 32, 33, 34, 35, 36, 37, 38, 39, 40, 41, 42, 43, 44, 45, 46, 47, 48, 49, 50, 51, 52, 53, 54, 55, 56, 57, 58, 59, 60, 61, 62, 63, 64, 65, 66, 67, 68, 69, 70, 71, 72, 73, 74, 75, 76, 77, 78, 79, 80, 81, 82, 83, 84, 85, 86, 87, 88, 89, 90, 91, 92, 93, 94, 95, 96, 97, 98, 99, 100, 101, 102, 103, 104, 105, 106, 107, 108]) [(12, .t (txt q.2.2.2.2.1)), (13, .t (txt q.2.2.2.2.2.1))], Go.Ot.look (putL (.r 3 5 0) (boxO 47 [.t (txt (q.2.2.2.1 0)), .t (txt (q.2.2.2.1 1)), .t (txt (q.2.2.2.1 2)), .t (txt (q.2.2.2.1 3)), loD q.1 (.r 16 2 0) 1, .t (num (cr)), .t (.v (.slice none 0 0)), .t (num (q.2.2.2.2.2.2.1)), .t (bol (q.2.1))]) (rowL q.1 (.r 16 2 0) [(q.2.2.2.2.2.2.2, enc ((q.2.2.1 : Int) + 1) q.2.2.2.2.2.1)] []))⟩) (MI 20) ?_ ?_
    · skip
      refine k_seq ?_
      refine k_region rfl ?_
      refine a_op ?_
      refine s_nil (r_false ?_)
      refine q_next ?_
      refine k_block ?_
      refine k_loopF (fun sl L (q : FQ) => ⟨setAll (setBad sl [1, 8, 11, 23, 24, 25, 26, 27, 28, 29, 30, 31, 32, 33, 34, 35, 36, 37, 38, 39, 40, 41, 42, 43, 44, 45, 46, 47, 48, 49, 50, 51, 52, 53, 54, 55, 56, 57, 58, 59, 60, 61, 62, 63, 64, 65, 66, 67, 68, 69, 70, 71, 72, 73, 74, 75, 76, 77, 78, 79, 80, 81, 82, 83, 84, 85, 86, 87, 88, 89, 90, 91, 92, 93, 94, 95, 96, 97, 98, 99, 100, 101, 102, 103, 104, 105, 106, 107, 108]) [(14, .t (num q.1)), (12, .t (txt q.2.2.2.2.2.1)), (13, .t (txt q.2.2.2.2.2.2.1))], Go.Ot.look (putL (.r 6 1 0) (boxO 49 [.ptr (.r 3 5 0) 0, .t (num ((q.2.2.2.1 : Int))), .t (txt (q.2.2.2.2.2.1)), .t (bol (q.2.2.1))]) (putL (.r 3 5 0) (boxO 47 [.t (txt (q.2.2.2.2.1 0)), .t (txt (q.2.2.2.2.1 1)), .t (txt (q.2.2.2.2.1 2)), .t (txt (q.2.2.2.2.1 3)), loD q.2.1 (.r 16 2 0) 1, .t (num (cr)), .t (.v (.slice none 0 0)), .t (num (q.2.2.2.2.2.2.2.1)), .t (bol (q.2.2.1))]) (rowL q.2.1 (.r 16 2 0) [(q.2.2.2.2.2.2.2.2, enc ((q.2.2.2.1 : Int) + 1) q.2.2.2.2.2.2.1)] [])))⟩) (FI l.length) (fun q => l.length - q.1) ((0, true, false, 0, (fun _ => []), [], [], 0, 0)) (a_le ?_) ?_ ?_
      · refine le_same ?_ ?_ ?_ <;> simp [-List.map_set, -List.map_replicate, -List.reduceReplicate, -List.map_map, -List.map_drop, -List.map_take, num, bol, txt, w8, w16, w32, w64, lst, cls, rowO, boxO, List.take_of_length_le, Wr.cellsL_len, wA, Wr.k_mk, Wr.n_mk, Wr.s_mk, Wr.l_mk, Wr.cellsL, Wr.z_eq]
      · exact ⟨Nat.zero_le _, Nat.le_refl _, Kp_0, fun _ => ⟨rfl, rfl⟩, (fun h => by cases h)⟩
      · rintro ⟨i, z, dead, k, s, held, next, ct, m⟩ ⟨hi, hki, hK, hU, hZ⟩
        simp only at hi hki hK hU hZ
        have h3 : (dead = false ∧ z = true ∧ ct = 2 * (k : Int)) ∨ (dead = true ∧ z = true) ∨ (dead = true ∧ z = false) := by
          rcases dead with _ | _
          · exact .inl ⟨rfl, hU rfl⟩
          · rcases z with _ | _
            · exact .inr (.inr ⟨rfl, rfl⟩)
            · exact .inr (.inl ⟨rfl, rfl⟩)
        rcases h3 with ⟨rfl, rfl, rfl⟩ | ⟨rfl, rfl⟩ | ⟨rfl, rfl⟩
        · refine a_st ?_
          refine k_seq ?_
          refine k_seq ?_
          refine k_region rfl ?_
          rcases (show i < l.length ∨ i = l.length by omega) with hil | hil
          · skip
            iterate 5 refine a_op ?_
            refine a_go ?_
            refine a_bygo (spec_ptrNil true rfl rfl (by kernel_rfl)) ?_
            refine a_op ?_
            refine a_op ?_
            refine a_go ?_
            refine a_callpgo [.r 3 5 0] [] [] false (Ce.downN Γ s cr (2 * (k : Int)) false) ?_
            refine a_go ?_
            refine a_op ?_
            refine s_nil (r_false ?_)
            refine q_next ?_
            refine a_true ?_
            refine k_skip ?_
            refine q_next ?_
            refine k_seq ?_
            refine k_block ?_
            refine k_seq ?_
            refine k_seq ?_
            refine k_region rfl ?_
            iterate 4 refine a_op ?_
            obtain ⟨y, hy⟩ : ∃ y, l.getD i [] = y := ⟨_, rfl⟩
            simp only [hy]
            refine a_op ?_
            refine a_op ?_
            refine s_nil (r_false ?_)
            refine q_next ?_
            refine a_if (fun hc4 => ?_) (fun hc4 => ?_)
            · (try simp only [Bool.and_eq_true, Bool.or_eq_true, Bool.or_eq_false_iff, Bool.not_eq_true', Bool.not_eq_false', dec_t, dec_f, Bool.and_eq_false_imp, beq_iff_eq, beq_eq_false_iff_ne, ne_eq] at hc4)
              refine k_seq ?_
              refine k_region rfl ?_
              refine a_call [] false (awake_good Γ hE) ?_
              refine a_op ?_
              refine s_nil (r_false ?_)
              refine q_next ?_
              refine k_ret ?_
              refine q_seq_ret (q_block_ret (q_seq_ret (q_loopF_ret (q_block_ret (q_meetF_ret ?_)))))
              refine ⟨.inr rfl, a_ret [] (by rw [results6]) ?_ ?_ ?_⟩ <;> simp [-List.map_set, -List.map_replicate, -List.reduceReplicate, -List.map_map, -List.map_drop, -List.map_take, num, bol, txt, w8, w16, w32, w64, lst, cls, rowO, boxO, List.take_of_length_le, Wr.cellsL_len, wA, Wr.k_mk, Wr.n_mk, Wr.s_mk, Wr.l_mk, Wr.cellsL, Wr.z_eq]
            · (try simp only [Bool.and_eq_true, Bool.or_eq_true, Bool.or_eq_false_iff, Bool.not_eq_true', Bool.not_eq_false', dec_t, dec_f, Bool.and_eq_false_imp, beq_iff_eq, beq_eq_false_iff_ne, ne_eq] at hc4)
              refine k_skip ?_
              refine q_next ?_
              refine k_seq ?_
              refine k_region rfl ?_
              iterate 4 refine a_op ?_
              simp only [hy]
              refine a_op ?_
              refine s_nil (r_false ?_)
              refine q_next ?_
              refine k_seq ?_
              refine k_region rfl ?_
              obtain ⟨m, hm, hme⟩ : ∃ m : Nat, ((k : Int) + 1) % 2 = (m : Int) ∧ (k + 1) % 2 = m := ⟨(k + 1) % 2, by omega, rfl⟩
              have hK2 : Kp (Ce.upd s m (enc ((k : Int) + 1) y)) (k + 1) y := by rw [← hme]; exact Kp_next hK
              rcases (show 2 * (k : Int) + 1 = cr ∨ 2 * (k : Int) + 2 = cr ∨ (2 * (k : Int) + 1 ≠ cr ∧ 2 * (k : Int) + 2 ≠ cr) by omega) with hcc | hcc | hcc
              · skip
                refine a_op ?_
                refine a_op ?_
                refine a_callp [.r 6 1 0, .r 3 5 0] [] [] false (keep_w13 Γ hE s cr (2 * (k : Int)) k (by omega) m hm y (by omega) held (by omega) (by omega)) ?_
                refine a_op ?_
                refine s_nil (r_false ?_)
                refine q_next ?_
                refine k_seq ?_
                refine k_region rfl ?_
                refine a_op ?_
                refine a_call [] false (num_good Γ 13) ?_
                refine a_op ?_
                refine s_nil (r_false ?_)
                refine q_next ?_
                refine a_false ?_
                refine k_seq ?_
                refine k_region rfl ?_
                refine a_op ?_
                refine a_call [] false (num_good Γ 13) ?_
                refine a_op ?_
                refine a_op ?_
                refine a_go ?_
                refine a_callpgo [.r 3 5 0] [] [] false (Ce.downN Γ s cr (2 * (k : Int) + 1) true) ?_
                refine a_go ?_
                refine a_op ?_
                refine a_op ?_
                refine a_go ?_
                refine a_callpgo [.r 6 1 0, .r 3 5 0] [] [] false (keep_deadN Γ s cr (2 * (k : Int) + 1) true k held [97, 103, 97, 105, 110] (by decide)) ?_
                refine a_callgo [] false (num_good Γ 13) ?_
                refine a_go ?_
                refine a_op ?_
                refine s_nil (r_false ?_)
                refine q_next ?_
                refine a_false ?_
                refine k_skip ?_
                refine q_block (q_next ?_)
                refine k_region rfl ?_
                iterate 3 refine a_op ?_
                refine s_nil (r_false ?_)
                refine q_loopF ((i + 1, true, true, k, s, held, y, 2 * (k : Int) + 1, 0)) (a_le ?_) ?_ ?_
                · refine le_same ?_ ?_ ?_ <;> simp [-List.map_set, -List.map_replicate, -List.reduceReplicate, -List.map_map, -List.map_drop, -List.map_take, num, bol, txt, w8, w16, w32, w64, lst, cls, rowO, boxO, List.take_of_length_le, Wr.cellsL_len, wA, Wr.k_mk, Wr.n_mk, Wr.s_mk, Wr.l_mk, Wr.cellsL, Wr.z_eq]
                · exact ⟨by simp only []; omega, by simp only []; omega, hK, (fun h => by cases h), (fun h => by cases h)⟩
                · simp only []; omega
              · skip
                refine a_op ?_
                refine a_op ?_
                refine a_callp [.r 6 1 0, .r 3 5 0] [] [] false (keep_s13 Γ hE s cr (2 * (k : Int)) k (by omega) m hm y (by omega) held (by omega) (by omega) (by omega)) ?_
                refine a_op ?_
                refine s_nil (r_false ?_)
                refine q_next ?_
                refine k_seq ?_
                refine k_region rfl ?_
                refine a_op ?_
                refine a_call [] false (num_good Γ 13) ?_
                refine a_op ?_
                refine s_nil (r_false ?_)
                refine q_next ?_
                refine a_false ?_
                refine k_seq ?_
                refine k_region rfl ?_
                refine a_op ?_
                refine a_call [] false (num_good Γ 13) ?_
                refine a_op ?_
                refine a_op ?_
                refine a_go ?_
                refine a_callpgo [.r 3 5 0, .r 16 2 0] [] [.r 16 2 0] false (Ce.downR Γ s [(m, enc ((k : Int) + 1) y)] (by simp) (in4_one (by omega)) cr (2 * (k : Int) + 2) true) ?_
                refine a_go ?_
                refine a_op ?_
                refine a_op ?_
                refine a_go ?_
                refine a_callpgo [.r 6 1 0, .r 3 5 0, .r 16 2 0] [] [.r 16 2 0] false (keep_deadR Γ s cr (2 * (k : Int) + 2) [(m, enc ((k : Int) + 1) y)] true k held [97, 103, 97, 105, 110] (by decide)) ?_
                refine a_callgo [] false (num_good Γ 13) ?_
                refine a_go ?_
                refine a_op ?_
                refine s_nil (r_false ?_)
                refine q_next ?_
                refine a_false ?_
                refine k_skip ?_
                refine q_block (q_next ?_)
                refine k_region rfl ?_
                iterate 3 refine a_op ?_
                refine s_nil (r_false ?_)
                refine q_loopF ((i + 1, false, true, k, s, held, y, 2 * (k : Int) + 2, m)) (a_le ?_) ?_ ?_
                · refine le_same ?_ ?_ ?_ <;> simp [-List.map_set, -List.map_replicate, -List.reduceReplicate, -List.map_map, -List.map_drop, -List.map_take, num, bol, txt, w8, w16, w32, w64, lst, cls, rowO, boxO, List.take_of_length_le, Wr.cellsL_len, wA, Wr.k_mk, Wr.n_mk, Wr.s_mk, Wr.l_mk, Wr.cellsL, Wr.z_eq]
                · exact ⟨by simp only []; omega, by simp only []; omega, hK, (fun h => by cases h), fun _ => hme⟩
                · simp only []; omega
              · skip
                refine a_op ?_
                refine a_op ?_
                refine a_callp [.r 6 1 0, .r 3 5 0] [] [] false (keep_ok Γ s cr (2 * (k : Int)) k (by omega) m hm y (by omega) held (by omega) (by omega) (by omega)) ?_
                refine a_op ?_
                refine s_nil (r_false ?_)
                refine q_next ?_
                refine k_seq ?_
                refine k_region rfl ?_
                refine a_op ?_
                refine a_call [] false (num_good Γ 0) ?_
                refine a_op ?_
                refine s_nil (r_false ?_)
                refine q_next ?_
                refine a_true ?_
                refine k_region rfl ?_
                refine a_op ?_
                refine a_op ?_
                refine s_nil (r_false ?_)
                refine q_block (q_next ?_)
                refine k_region rfl ?_
                iterate 3 refine a_op ?_
                refine s_nil (r_false ?_)
                refine q_loopF ((i + 1, true, false, k + 1, (Ce.upd s m (enc ((k : Int) + 1) y)), y, y, 2 * (k : Int) + 2, 0)) (a_le ?_) ?_ ?_
                · refine le_same ?_ ?_ ?_ <;> simp [-List.map_set, -List.map_replicate, -List.reduceReplicate, -List.map_map, -List.map_drop, -List.map_take, num, bol, txt, w8, w16, w32, w64, lst, cls, rowO, boxO, List.take_of_length_le, Wr.cellsL_len, wA, Wr.k_mk, Wr.n_mk, Wr.s_mk, Wr.l_mk, Wr.cellsL, Wr.z_eq]
                · exact ⟨by simp only []; omega, by simp only []; omega, hK2, fun _ => ⟨rfl, by simp only []; omega⟩, (fun h => by cases h)⟩
                · simp only []; omega
          · skip
            iterate 5 refine a_op ?_
            refine a_no ?_
            refine a_no ?_
            refine a_op ?_
            refine a_op ?_
            refine a_no ?_
            refine a_no ?_
            refine a_no ?_
            refine a_op ?_
            refine s_nil (r_false ?_)
            refine q_next ?_
            refine a_false ?_
            refine k_exit ?_
            refine q_seq_exit (q_loopF_exit (q_block_exit (q_meetF ((true, false, k, s, held, next, 2 * (k : Int), 0)) (a_le ?_) ?_)))
            · refine le_same ?_ ?_ ?_ <;> simp [-List.map_set, -List.map_replicate, -List.reduceReplicate, -List.map_map, -List.map_drop, -List.map_take, num, bol, txt, w8, w16, w32, w64, lst, cls, rowO, boxO, List.take_of_length_le, Wr.cellsL_len, wA, Wr.k_mk, Wr.n_mk, Wr.s_mk, Wr.l_mk, Wr.cellsL, Wr.z_eq]
            · exact ⟨by simp only []; omega, hK, (fun h => by cases h)⟩
        · refine a_st ?_
          refine k_seq ?_
          refine k_seq ?_
          refine k_region rfl ?_
          rcases (show i < l.length ∨ i = l.length by omega) with hil | hil
          · skip
            iterate 5 refine a_op ?_
            refine a_go ?_
            refine a_bygo (spec_ptrNil true rfl rfl (by kernel_rfl)) ?_
            refine a_op ?_
            refine a_op ?_
            refine a_go ?_
            refine a_callpgo [.r 3 5 0] [] [] false (Ce.downN Γ s cr ct true) ?_
            refine a_go ?_
            refine a_op ?_
            refine s_nil (r_false ?_)
            refine q_next ?_
            refine a_false ?_
            refine k_exit ?_
            refine q_seq_exit (q_loopF_exit (q_block_exit (q_meetF ((true, true, k, s, held, next, ct, 0)) (a_le ?_) ?_)))
            · refine le_same ?_ ?_ ?_ <;> simp [-List.map_set, -List.map_replicate, -List.reduceReplicate, -List.map_map, -List.map_drop, -List.map_take, num, bol, txt, w8, w16, w32, w64, lst, cls, rowO, boxO, List.take_of_length_le, Wr.cellsL_len, wA, Wr.k_mk, Wr.n_mk, Wr.s_mk, Wr.l_mk, Wr.cellsL, Wr.z_eq]
            · exact ⟨by simp only []; omega, hK, (fun h => by cases h)⟩
          · skip
            iterate 5 refine a_op ?_
            refine a_no ?_
            refine a_no ?_
            refine a_op ?_
            refine a_op ?_
            refine a_no ?_
            refine a_no ?_
            refine a_no ?_
            refine a_op ?_
            refine s_nil (r_false ?_)
            refine q_next ?_
            refine a_false ?_
            refine k_exit ?_
            refine q_seq_exit (q_loopF_exit (q_block_exit (q_meetF ((true, true, k, s, held, next, ct, 0)) (a_le ?_) ?_)))
            · refine le_same ?_ ?_ ?_ <;> simp [-List.map_set, -List.map_replicate, -List.reduceReplicate, -List.map_map, -List.map_drop, -List.map_take, num, bol, txt, w8, w16, w32, w64, lst, cls, rowO, boxO, List.take_of_length_le, Wr.cellsL_len, wA, Wr.k_mk, Wr.n_mk, Wr.s_mk, Wr.l_mk, Wr.cellsL, Wr.z_eq]
            · exact ⟨by simp only []; omega, hK, (fun h => by cases h)⟩
        · refine a_st ?_
          refine k_seq ?_
          refine k_seq ?_
          refine k_region rfl ?_
          rcases (show i < l.length ∨ i = l.length by omega) with hil | hil
          · skip
            iterate 5 refine a_op ?_
            refine a_go ?_
            refine a_bygo (spec_ptrNil true rfl rfl (by kernel_rfl)) ?_
            refine a_op ?_
            refine a_op ?_
            refine a_go ?_
            refine a_callpgo [.r 3 5 0, .r 16 2 0] [] [.r 16 2 0] false (Ce.downR Γ s [(m, enc ((k : Int) + 1) next)] (by simp) (in4_one (by have := hZ rfl; omega)) cr ct true) ?_
            refine a_go ?_
            refine a_op ?_
            refine s_nil (r_false ?_)
            refine q_next ?_
            refine a_false ?_
            refine k_exit ?_
            refine q_seq_exit (q_loopF_exit (q_block_exit (q_meetF ((false, true, k, s, held, next, ct, m)) (a_le ?_) ?_)))
            · refine le_same ?_ ?_ ?_ <;> simp [-List.map_set, -List.map_replicate, -List.reduceReplicate, -List.map_map, -List.map_drop, -List.map_take, num, bol, txt, w8, w16, w32, w64, lst, cls, rowO, boxO, List.take_of_length_le, Wr.cellsL_len, wA, Wr.k_mk, Wr.n_mk, Wr.s_mk, Wr.l_mk, Wr.cellsL, Wr.z_eq]
            · exact ⟨by simp only []; omega, hK, fun h => ⟨hZ rfl, rfl⟩⟩
          · skip
            iterate 5 refine a_op ?_
            refine a_no ?_
            refine a_no ?_
            refine a_op ?_
            refine a_op ?_
            refine a_no ?_
            refine a_no ?_
            refine a_no ?_
            refine a_op ?_
            refine s_nil (r_false ?_)
            refine q_next ?_
            refine a_false ?_
            refine k_exit ?_
            refine q_seq_exit (q_loopF_exit (q_block_exit (q_meetF ((false, true, k, s, held, next, ct, m)) (a_le ?_) ?_)))
            · refine le_same ?_ ?_ ?_ <;> simp [-List.map_set, -List.map_replicate, -List.reduceReplicate, -List.map_map, -List.map_drop, -List.map_take, num, bol, txt, w8, w16, w32, w64, lst, cls, rowO, boxO, List.take_of_length_le, Wr.cellsL_len, wA, Wr.k_mk, Wr.n_mk, Wr.s_mk, Wr.l_mk, Wr.cellsL, Wr.z_eq]
            · exact ⟨by simp only []; omega, hK, fun h => ⟨hZ rfl, rfl⟩⟩
    · rintro ⟨z, dn, k, s, held, next, ct, m⟩ ⟨hk, hK, hZ⟩
      simp only at hk hK hZ
      rcases z with _ | _
      · refine a_st ?_
        refine k_seq ?_
        refine k_seq ?_
        refine k_region rfl ?_
        refine a_op ?_
        refine s_nil (r_false ?_)
        refine q_next ?_
        refine k_block ?_
        obtain ⟨hm1, rfl⟩ := hZ rfl
        refine k_loopF (fun sl L (q : LQ) => ⟨setAll (setBad sl [0, 1, 8, 10, 11, 14, 16, 17, 23, 24, 25, 26, 27, 28, 29, 30, 31, 32, 33, 34, 35, 36, 37, 38, 39, 40, 41, 42, 43, 44, 45, 46, 47, 48, 49, 50, 51, 52, 53, 54, 55, 56, 57, 58, 59, 60, 61, 62, 63, 64, 65, 66, 67, 68, 69, 70, 71, 72, 73, 74, 75, 76, 77, 78, 79, 80, 81, 82, 83, 84, 85, 86, 87, 88, 89, 90, 91, 92, 93, 94, 95, 96, 97, 98, 99, 100, 101, 102, 103, 104, 105, 106, 107, 108, 109, 110, 111, 112, 113, 114, 115, 116, 117, 118, 119, 120, 121, 122, 123, 124, 125, 126, 127, 128, 129, 130, 131, 132, 133, 134, 135, 136, 137, 138, 139, 140, 141, 142, 143, 144, 145, 146, 147, 148, 149, 150, 151, 152, 153, 154, 155, 156, 157, 158, 159, 160, 161, 162, 163]) [(15, .t (num q.1))], Go.Ot.look (putL (.r 3 5 0) (boxO 47 [.t (txt (q.2.2.1 0)), .t (txt (q.2.2.1 1)), .t (txt (q.2.2.1 2)), .t (txt (q.2.2.1 3)), loD q.2.1 (.r 16 2 0) 1, .t (num (q.2.2.2.2.2.1)), .t (.v (.slice none 0 0)), .t (num (q.2.2.2.2.2.2.1)), .t (bol (q.2.2.2.2.2.2.2))]) (rowL q.2.1 (.r 16 2 0) [(m, enc ((k : Int) + 1) next)] []))⟩) (LR fs.length k s held next) (fun q => fs.length - q.1) ((0, false, s, k, held, cr, ct, true)) (a_le ?_) ?_ ?_
        · refine le_same ?_ ?_ ?_ <;> simp [-List.map_set, -List.map_replicate, -List.reduceReplicate, -List.map_map, -List.map_drop, -List.map_take, num, bol, txt, w8, w16, w32, w64, lst, cls, rowO, boxO, List.take_of_length_le, Wr.cellsL_len, wA, Wr.k_mk, Wr.n_mk, Wr.s_mk, Wr.l_mk, Wr.cellsL, Wr.z_eq]
        · exact ⟨⟨Nat.zero_le _, hK, Nat.le_succ _, .inl rfl⟩, fun _ => ⟨rfl, rfl, rfl⟩⟩
        · rintro ⟨j, z1, s1, kk, t, cr1, ct1, dn1⟩ ⟨⟨hj, hK1, hkk1, ht⟩, hR1⟩
          simp only at hj hK1 hkk1 ht hR1
          rcases z1 with _ | _
          · refine a_st ?_
            refine k_seq ?_
            refine k_seq ?_
            refine k_region rfl ?_
            iterate 4 refine a_op ?_
            refine s_nil (r_false ?_)
            refine q_next ?_
            refine a_if (fun hc7 => ?_) (fun hc7 => ?_)
            · (try simp only [Bool.and_eq_true, Bool.or_eq_true, Bool.or_eq_false_iff, Bool.not_eq_true', Bool.not_eq_false', dec_t, dec_f, Bool.and_eq_false_imp, beq_iff_eq, beq_eq_false_iff_ne, ne_eq] at hc7)
              refine k_skip ?_
              refine q_next ?_
              refine k_seq ?_
              refine k_block ?_
              refine k_seq ?_
              refine k_region rfl ?_
              obtain ⟨e1, e2, e3⟩ := hR1 rfl
              subst s1
              subst kk
              subst t
              have hKn : Kp (Ce.upd s m (enc ((k : Int) + 1) next)) (k + 1) next := by rw [← hm1]; exact Kp_next hK
              rcases Classical.em (0 < ks.length ∧ ks.getD (0 % ks.length) default = true) with hkk | hkk
              · first | have hF := fall_yes (s := s) (m := m) (x := enc ((k : Int) + 1) next) hkk | have hF := fall_no (s := s) (m := m) (x := enc ((k : Int) + 1) next) hkk
                iterate 5 refine a_op ?_
                obtain ⟨e8, he8⟩ : ∃ e, fs.getD j 0 = e := ⟨_, rfl⟩
                simp only [he8]
                have hx9 := e8.toNat_lt
                obtain ⟨cr2, hcr3⟩ : ∃ cr : Int, 1 + (e8.toNat : Int) % 4 = cr := ⟨_, rfl⟩
                refine a_op ?_
                refine a_op ?_
                refine a_op (hs := by (simp (disch := first | omega | (simp only [List.length_drop, List.length_take, List.length_map, List.length_append, List.length_cons, List.length_nil, List.length_replicate, List.length_set] <;> omega) | (simp only [push_cast] <;> omega) | fail) only [push_cast, reduceCtorEq, Nat.reduceAdd, Nat.reduceSub, Nat.reduceMul, Nat.reduceEqDiff, Nat.reduceLT, Nat.reduceLeDiff, Nat.reduceMod, Nat.reduceDiv, Int.reduceLE, Int.reduceLT, Int.reduceEq, Int.reduceToNat, Int.reduceAdd, Int.reduceSub, Int.reduceMul, Int.reduceNeg, hcr3] <;> rfl)) ?_
                refine a_op ?_
                refine a_op ?_
                refine a_callp [.r 3 5 0, .r 16 2 0] [] [.r 16 2 0] false ((by have h := Ce.fallR Γ s [(m, enc ((k : Int) + 1) next)] (by simp) (in4_one (by omega)) cr1 ct1 dn1 cr2 ks (Nat.le_trans hy (by decide)); rw [hF] at h; exact h)) ?_
                refine s_nil (r_false ?_)
                refine q_next ?_
                refine k_seq ?_
                refine k_region rfl ?_
                refine a_op ?_
                refine a_callp [.r 3 5 0] [] [] false (Open_kp Γ hE (Ce.upd s m (enc ((k : Int) + 1) next)) cr2 0 (k + 1) next hKn (by omega)) ?_
                iterate 5 refine a_op ?_
                refine s_nil (r_false ?_)
                refine q_next ?_
                refine k_seq ?_
                refine k_region rfl ?_
                have hbb : ∃ b, (next == held) = b := ⟨_, rfl⟩
                obtain ⟨b, hbe⟩ := hbb
                have hnx : b = false → (next == next) = true := by
                  intro hb
                  simp
                rcases b with _ | _
                · first | (have hnx := hnx rfl) | skip
                  refine a_op ?_
                  refine a_call [] false (num_good Γ 0) ?_
                  refine a_op ?_
                  refine a_op ?_
                  refine a_no ?_
                  refine a_no ?_
                  refine a_no ?_
                  refine a_no ?_
                  refine a_no ?_
                  refine a_no ?_
                  refine a_no ?_
                  refine a_op ?_
                  refine a_op ?_
                  refine a_go ?_
                  refine a_callgo [] false (num_good Γ 0) ?_
                  refine a_go ?_
                  refine a_go ?_
                  refine a_go ?_
                  refine a_bygo (spec_ptrNil false rfl rfl (by kernel_rfl)) ?_
                  refine a_go ?_
                  refine a_go ?_
                  refine a_callpgo [.r 25 1 0, .r 3 5 0] [] [] false (last_good Γ (Ce.upd s m (enc ((k : Int) + 1) next)) cr2 0 false (.t (.v (.slice none 0 0))) (k + 1) next false) ?_
                  refine a_go ?_
                  refine a_go (hs := by (simp (disch := first | omega | (simp only [List.length_drop, List.length_take, List.length_map, List.length_append, List.length_cons, List.length_nil, List.length_replicate, List.length_set] <;> omega) | (simp only [push_cast] <;> omega) | fail) only [push_cast, reduceCtorEq, Nat.reduceAdd, Nat.reduceSub, Nat.reduceMul, Nat.reduceEqDiff, Nat.reduceLT, Nat.reduceLeDiff, Nat.reduceMod, Nat.reduceDiv, Int.reduceLE, Int.reduceLT, Int.reduceEq, Int.reduceToNat, Int.reduceAdd, Int.reduceSub, Int.reduceMul, Int.reduceNeg, hbe] <;> rfl)) ?_
                  refine a_go ?_
                  refine a_go ?_
                  refine a_callpgo [.r 25 1 0, .r 3 5 0] [] [] false (last_good Γ (Ce.upd s m (enc ((k : Int) + 1) next)) cr2 0 false (.t (.v (.slice none 0 0))) (k + 1) next false) ?_
                  refine a_go ?_
                  refine a_go (hs := by (simp (disch := first | omega | (simp only [List.length_drop, List.length_take, List.length_map, List.length_append, List.length_cons, List.length_nil, List.length_replicate, List.length_set] <;> omega) | (simp only [push_cast] <;> omega) | fail) only [push_cast, reduceCtorEq, Nat.reduceAdd, Nat.reduceSub, Nat.reduceMul, Nat.reduceEqDiff, Nat.reduceLT, Nat.reduceLeDiff, Nat.reduceMod, Nat.reduceDiv, Int.reduceLE, Int.reduceLT, Int.reduceEq, Int.reduceToNat, Int.reduceAdd, Int.reduceSub, Int.reduceMul, Int.reduceNeg, hnx] <;> rfl)) ?_
                  refine a_go ?_
                  refine a_go ?_
                  refine a_go ?_
                  refine a_op ?_
                  refine s_nil (r_false ?_)
                  refine q_next ?_
                  refine a_false ?_
                  refine k_skip ?_
                  refine q_block (q_next ?_)
                  refine k_region rfl ?_
                  iterate 3 refine a_op ?_
                  refine s_nil (r_false ?_)
                  refine q_loopF ((j + 1, true, (Ce.upd s m (enc ((k : Int) + 1) next)), (k + 1), next, cr2, 0, false)) (a_le ?_) ?_ ?_
                  · refine le_same ?_ ?_ ?_ <;> simp [-List.map_set, -List.map_replicate, -List.reduceReplicate, -List.map_map, -List.map_drop, -List.map_take, num, bol, txt, w8, w16, w32, w64, lst, cls, rowO, boxO, List.take_of_length_le, Wr.cellsL_len, wA, Wr.k_mk, Wr.n_mk, Wr.s_mk, Wr.l_mk, Wr.cellsL, Wr.z_eq]
                  · exact ⟨⟨by simp only []; omega, hKn, by simp only []; omega, .inr rfl⟩, (fun h => by cases h)⟩
                  · simp only []; omega
                · first | (have hnx := hnx rfl) | skip
                  refine a_op ?_
                  refine a_call [] false (num_good Γ 0) ?_
                  refine a_op ?_
                  refine a_op ?_
                  refine a_no ?_
                  refine a_no ?_
                  refine a_no ?_
                  refine a_no ?_
                  refine a_no ?_
                  refine a_no ?_
                  refine a_no ?_
                  refine a_op ?_
                  refine a_op ?_
                  refine a_go ?_
                  refine a_callgo [] false (num_good Γ 0) ?_
                  refine a_go ?_
                  refine a_go ?_
                  refine a_go ?_
                  refine a_bygo (spec_ptrNil false rfl rfl (by kernel_rfl)) ?_
                  refine a_go ?_
                  refine a_go ?_
                  refine a_callpgo [.r 25 1 0, .r 3 5 0] [] [] false (last_good Γ (Ce.upd s m (enc ((k : Int) + 1) next)) cr2 0 false (.t (.v (.slice none 0 0))) (k + 1) next false) ?_
                  refine a_go ?_
                  refine a_go (hs := by (simp (disch := first | omega | (simp only [List.length_drop, List.length_take, List.length_map, List.length_append, List.length_cons, List.length_nil, List.length_replicate, List.length_set] <;> omega) | (simp only [push_cast] <;> omega) | fail) only [push_cast, reduceCtorEq, Nat.reduceAdd, Nat.reduceSub, Nat.reduceMul, Nat.reduceEqDiff, Nat.reduceLT, Nat.reduceLeDiff, Nat.reduceMod, Nat.reduceDiv, Int.reduceLE, Int.reduceLT, Int.reduceEq, Int.reduceToNat, Int.reduceAdd, Int.reduceSub, Int.reduceMul, Int.reduceNeg, hbe] <;> rfl)) ?_
                  refine a_go ?_
                  refine a_no ?_
                  refine a_no ?_
                  refine a_no ?_
                  refine a_no ?_
                  refine a_go ?_
                  refine a_go ?_
                  refine a_go ?_
                  refine a_op ?_
                  refine s_nil (r_false ?_)
                  refine q_next ?_
                  refine a_false ?_
                  refine k_skip ?_
                  refine q_block (q_next ?_)
                  refine k_region rfl ?_
                  iterate 3 refine a_op ?_
                  refine s_nil (r_false ?_)
                  refine q_loopF ((j + 1, true, (Ce.upd s m (enc ((k : Int) + 1) next)), (k + 1), next, cr2, 0, false)) (a_le ?_) ?_ ?_
                  · refine le_same ?_ ?_ ?_ <;> simp [-List.map_set, -List.map_replicate, -List.reduceReplicate, -List.map_map, -List.map_drop, -List.map_take, num, bol, txt, w8, w16, w32, w64, lst, cls, rowO, boxO, List.take_of_length_le, Wr.cellsL_len, wA, Wr.k_mk, Wr.n_mk, Wr.s_mk, Wr.l_mk, Wr.cellsL, Wr.z_eq]
                  · exact ⟨⟨by simp only []; omega, hKn, by simp only []; omega, .inr rfl⟩, (fun h => by cases h)⟩
                  · simp only []; omega
              · first | have hF := fall_yes (s := s) (m := m) (x := enc ((k : Int) + 1) next) hkk | have hF := fall_no (s := s) (m := m) (x := enc ((k : Int) + 1) next) hkk
                iterate 5 refine a_op ?_
                obtain ⟨e8, he8⟩ : ∃ e, fs.getD j 0 = e := ⟨_, rfl⟩
                simp only [he8]
                have hx9 := e8.toNat_lt
                obtain ⟨cr2, hcr3⟩ : ∃ cr : Int, 1 + (e8.toNat : Int) % 4 = cr := ⟨_, rfl⟩
                refine a_op ?_
                refine a_op ?_
                refine a_op (hs := by (simp (disch := first | omega | (simp only [List.length_drop, List.length_take, List.length_map, List.length_append, List.length_cons, List.length_nil, List.length_replicate, List.length_set] <;> omega) | (simp only [push_cast] <;> omega) | fail) only [push_cast, reduceCtorEq, Nat.reduceAdd, Nat.reduceSub, Nat.reduceMul, Nat.reduceEqDiff, Nat.reduceLT, Nat.reduceLeDiff, Nat.reduceMod, Nat.reduceDiv, Int.reduceLE, Int.reduceLT, Int.reduceEq, Int.reduceToNat, Int.reduceAdd, Int.reduceSub, Int.reduceMul, Int.reduceNeg, hcr3] <;> rfl)) ?_
                refine a_op ?_
                refine a_op ?_
                refine a_callp [.r 3 5 0, .r 16 2 0] [] [.r 16 2 0] false ((by have h := Ce.fallR Γ s [(m, enc ((k : Int) + 1) next)] (by simp) (in4_one (by omega)) cr1 ct1 dn1 cr2 ks (Nat.le_trans hy (by decide)); rw [hF] at h; exact h)) ?_
                refine s_nil (r_false ?_)
                refine q_next ?_
                refine k_seq ?_
                refine k_region rfl ?_
                refine a_op ?_
                refine a_callp [.r 3 5 0] [] [] false (Open_kp Γ hE s cr2 0 k held hK (by omega)) ?_
                iterate 5 refine a_op ?_
                refine s_nil (r_false ?_)
                refine q_next ?_
                refine k_seq ?_
                refine k_region rfl ?_
                skip
                refine a_op ?_
                refine a_call [] false (num_good Γ 0) ?_
                refine a_op ?_
                refine a_op ?_
                refine a_no ?_
                refine a_no ?_
                refine a_no ?_
                refine a_no ?_
                refine a_no ?_
                refine a_no ?_
                refine a_no ?_
                refine a_op ?_
                refine a_op ?_
                refine a_go ?_
                refine a_callgo [] false (num_good Γ 0) ?_
                refine a_go ?_
                refine a_go ?_
                refine a_go ?_
                refine a_bygo (spec_ptrNil false rfl rfl (by kernel_rfl)) ?_
                refine a_go ?_
                refine a_go ?_
                refine a_callpgo [.r 25 1 0, .r 3 5 0] [] [] false (last_good Γ s cr2 0 false (.t (.v (.slice none 0 0))) k held false) ?_
                refine a_go ?_
                refine a_go ?_
                refine a_go ?_
                refine a_no ?_
                refine a_no ?_
                refine a_no ?_
                refine a_no ?_
                refine a_go ?_
                refine a_go ?_
                refine a_go ?_
                refine a_op ?_
                refine s_nil (r_false ?_)
                refine q_next ?_
                refine a_false ?_
                refine k_skip ?_
                refine q_block (q_next ?_)
                refine k_region rfl ?_
                iterate 3 refine a_op ?_
                refine s_nil (r_false ?_)
                refine q_loopF ((j + 1, true, s, k, held, cr2, 0, false)) (a_le ?_) ?_ ?_
                · refine le_same ?_ ?_ ?_ <;> simp [-List.map_set, -List.map_replicate, -List.reduceReplicate, -List.map_map, -List.map_drop, -List.map_take, num, bol, txt, w8, w16, w32, w64, lst, cls, rowO, boxO, List.take_of_length_le, Wr.cellsL_len, wA, Wr.k_mk, Wr.n_mk, Wr.s_mk, Wr.l_mk, Wr.cellsL, Wr.z_eq]
                · exact ⟨⟨by simp only []; omega, hK, by simp only []; omega, .inl rfl⟩, (fun h => by cases h)⟩
                · simp only []; omega
            · (try simp only [Bool.and_eq_true, Bool.or_eq_true, Bool.or_eq_false_iff, Bool.not_eq_true', Bool.not_eq_false', dec_t, dec_f, Bool.and_eq_false_imp, beq_iff_eq, beq_eq_false_iff_ne, ne_eq] at hc7)
              refine k_exit ?_
              refine q_seq_exit (q_loopF_exit (q_block_exit (q_next ?_)))
              refine k_seq ?_
              refine k_region rfl ?_
              obtain ⟨e1, e2, e3⟩ := hR1 rfl
              subst s1
              subst kk
              subst t
              have hKn : Kp (Ce.upd s m (enc ((k : Int) + 1) next)) (k + 1) next := by rw [← hm1]; exact Kp_next hK
              rcases Classical.em (0 < ks.length ∧ ks.getD (0 % ks.length) default = true) with hkk | hkk
              · first | have hF := fall_yes (s := s) (m := m) (x := enc ((k : Int) + 1) next) hkk | have hF := fall_no (s := s) (m := m) (x := enc ((k : Int) + 1) next) hkk
                iterate 3 refine a_op ?_
                refine a_callp [.r 3 5 0, .r 16 2 0] [] [.r 16 2 0] false ((by have h := Ce.fallR Γ s [(m, enc ((k : Int) + 1) next)] (by simp) (in4_one (by omega)) cr1 ct1 dn1 0 ks (Nat.le_trans hy (by decide)); rw [hF] at h; exact h)) ?_
                refine s_nil (r_false ?_)
                refine q_next ?_
                refine k_seq ?_
                refine k_region rfl ?_
                refine a_op ?_
                refine a_callp [.r 3 5 0] [] [] false (Open_kp Γ hE (Ce.upd s m (enc ((k : Int) + 1) next)) 0 0 (k + 1) next hKn (by omega)) ?_
                iterate 5 refine a_op ?_
                refine s_nil (r_false ?_)
                refine q_next ?_
                refine k_seq ?_
                refine k_seq ?_
                refine k_region rfl ?_
                have hbb : ∃ b, (next == held) = b := ⟨_, rfl⟩
                obtain ⟨b, hbe⟩ := hbb
                have hnx : b = false → (next == next) = true := by
                  intro hb
                  simp
                rcases b with _ | _
                · first | (have hnx := hnx rfl) | skip
                  refine a_op ?_
                  refine a_call [] false (num_good Γ 0) ?_
                  refine a_op ?_
                  refine a_op ?_
                  refine a_go ?_
                  refine a_bygo (spec_ptrNil false rfl rfl (by kernel_rfl)) ?_
                  refine a_op ?_
                  refine a_op ?_
                  refine a_go ?_
                  refine a_callpgo [.r 29 1 0, .r 3 5 0] [] [] false (last_good Γ (Ce.upd s m (enc ((k : Int) + 1) next)) 0 0 false (.t (.v (.slice none 0 0))) (k + 1) next false) ?_
                  refine a_go ?_
                  refine a_go (hs := by (simp (disch := first | omega | (simp only [List.length_drop, List.length_take, List.length_map, List.length_append, List.length_cons, List.length_nil, List.length_replicate, List.length_set] <;> omega) | (simp only [push_cast] <;> omega) | fail) only [push_cast, reduceCtorEq, Nat.reduceAdd, Nat.reduceSub, Nat.reduceMul, Nat.reduceEqDiff, Nat.reduceLT, Nat.reduceLeDiff, Nat.reduceMod, Nat.reduceDiv, Int.reduceLE, Int.reduceLT, Int.reduceEq, Int.reduceToNat, Int.reduceAdd, Int.reduceSub, Int.reduceMul, Int.reduceNeg, hbe] <;> rfl)) ?_
                  refine a_go ?_
                  refine a_go ?_
                  refine a_callpgo [.r 29 1 0, .r 3 5 0] [] [] false (last_good Γ (Ce.upd s m (enc ((k : Int) + 1) next)) 0 0 false (.t (.v (.slice none 0 0))) (k + 1) next false) ?_
                  refine a_go ?_
                  refine a_go (hs := by (simp (disch := first | omega | (simp only [List.length_drop, List.length_take, List.length_map, List.length_append, List.length_cons, List.length_nil, List.length_replicate, List.length_set] <;> omega) | (simp only [push_cast] <;> omega) | fail) only [push_cast, reduceCtorEq, Nat.reduceAdd, Nat.reduceSub, Nat.reduceMul, Nat.reduceEqDiff, Nat.reduceLT, Nat.reduceLeDiff, Nat.reduceMod, Nat.reduceDiv, Int.reduceLE, Int.reduceLT, Int.reduceEq, Int.reduceToNat, Int.reduceAdd, Int.reduceSub, Int.reduceMul, Int.reduceNeg, hnx] <;> rfl)) ?_
                  refine a_go ?_
                  refine a_op ?_
                  refine s_nil (r_false ?_)
                  refine q_next ?_
                  refine a_false ?_
                  refine k_skip ?_
                  refine q_next ?_
                  refine k_seq ?_
                  refine k_region rfl ?_
                  obtain ⟨m2, hm2, hme2⟩ : ∃ m : Nat, (((k + 1) : Nat) + 1 : Int) % 2 = (m : Int) ∧ ((k + 1) + 1) % 2 = m := ⟨((k + 1) + 1) % 2, by omega, rfl⟩
                  have hKm : Kp (Ce.upd (Ce.upd s m (enc ((k : Int) + 1) next)) m2 (enc ((((k + 1) : Nat) : Int) + 1) [109, 111, 114, 101])) ((k + 1) + 1) [109, 111, 114, 101] := by rw [← hme2]; exact Kp_next hKn
                  refine a_op ?_
                  refine a_callp [.r 29 1 0, .r 3 5 0] [] [] false (keep_ok Γ (Ce.upd s m (enc ((k : Int) + 1) next)) 0 0 (k + 1) (by omega) m2 (by omega) [109, 111, 114, 101] (by decide) next (by omega) (by omega) (by omega)) ?_
                  refine a_op ?_
                  refine s_nil (r_false ?_)
                  refine q_next ?_
                  refine k_seq ?_
                  refine k_region rfl ?_
                  refine a_op ?_
                  refine a_op ?_
                  refine a_callp [.r 3 5 0] [] [] false (Ce.fallN Γ (Ce.upd (Ce.upd s m (enc ((k : Int) + 1) next)) m2 (enc ((((k + 1) : Nat) : Int) + 1) [109, 111, 114, 101])) 0 (0 + 2) false 0 [] (by decide)) ?_
                  refine s_nil (r_false ?_)
                  refine q_next ?_
                  refine k_seq ?_
                  refine k_region rfl ?_
                  refine a_op ?_
                  refine a_callp [.r 3 5 0] [] [] false (Open_kp Γ hE (Ce.upd (Ce.upd s m (enc ((k : Int) + 1) next)) m2 (enc ((((k + 1) : Nat) : Int) + 1) [109, 111, 114, 101])) 0 0 ((k + 1) + 1) [109, 111, 114, 101] hKm (by omega)) ?_
                  iterate 5 refine a_op ?_
                  refine s_nil (r_false ?_)
                  refine q_next ?_
                  refine k_seq ?_
                  refine k_region rfl ?_
                  refine a_op ?_
                  refine a_call [] false (num_good Γ 0) ?_
                  refine a_op ?_
                  refine a_op ?_
                  refine a_go ?_
                  refine a_callgo [] false (num_good Γ 0) ?_
                  refine a_go ?_
                  refine a_op ?_
                  refine a_op ?_
                  refine a_go ?_
                  refine a_bygo (spec_ptrNil true rfl rfl (by kernel_rfl)) ?_
                  refine a_op ?_
                  refine a_op ?_
                  refine a_go ?_
                  refine a_callpgo [.r 34 1 0, .r 3 5 0] [] [] false (last_good Γ (Ce.upd (Ce.upd s m (enc ((k : Int) + 1) next)) m2 (enc ((((k + 1) : Nat) : Int) + 1) [109, 111, 114, 101])) 0 0 false (.t (.v (.slice none 0 0))) ((((k + 1) : Nat) : Int) + 1) [109, 111, 114, 101] false) ?_
                  refine a_go ?_
                  refine a_op ?_
                  refine a_op ?_
                  refine a_callgo [] false (awake_good Γ hE) ?_
                  refine a_op ?_
                  refine a_op ?_
                  refine s_nil (r_false ?_)
                  refine q_next ?_
                  refine k_ret ?_
                  refine ⟨.inr rfl, a_ret [] (by rw [results6]) ?_ ?_ ?_⟩ <;> simp [-List.map_set, -List.map_replicate, -List.reduceReplicate, -List.map_map, -List.map_drop, -List.map_take, num, bol, txt, w8, w16, w32, w64, lst, cls, rowO, boxO, List.take_of_length_le, Wr.cellsL_len, wA, Wr.k_mk, Wr.n_mk, Wr.s_mk, Wr.l_mk, Wr.cellsL, Wr.z_eq]
                · first | (have hnx := hnx rfl) | skip
                  refine a_op ?_
                  refine a_call [] false (num_good Γ 0) ?_
                  refine a_op ?_
                  refine a_op ?_
                  refine a_go ?_
                  refine a_bygo (spec_ptrNil false rfl rfl (by kernel_rfl)) ?_
                  refine a_op ?_
                  refine a_op ?_
                  refine a_go ?_
                  refine a_callpgo [.r 29 1 0, .r 3 5 0] [] [] false (last_good Γ (Ce.upd s m (enc ((k : Int) + 1) next)) 0 0 false (.t (.v (.slice none 0 0))) (k + 1) next false) ?_
                  refine a_go ?_
                  refine a_go (hs := by (simp (disch := first | omega | (simp only [List.length_drop, List.length_take, List.length_map, List.length_append, List.length_cons, List.length_nil, List.length_replicate, List.length_set] <;> omega) | (simp only [push_cast] <;> omega) | fail) only [push_cast, reduceCtorEq, Nat.reduceAdd, Nat.reduceSub, Nat.reduceMul, Nat.reduceEqDiff, Nat.reduceLT, Nat.reduceLeDiff, Nat.reduceMod, Nat.reduceDiv, Int.reduceLE, Int.reduceLT, Int.reduceEq, Int.reduceToNat, Int.reduceAdd, Int.reduceSub, Int.reduceMul, Int.reduceNeg, hbe] <;> rfl)) ?_
                  refine a_go ?_
                  refine a_no ?_
                  refine a_no ?_
                  refine a_no ?_
                  refine a_no ?_
                  refine a_go ?_
                  refine a_op ?_
                  refine s_nil (r_false ?_)
                  refine q_next ?_
                  refine a_false ?_
                  refine k_skip ?_
                  refine q_next ?_
                  refine k_seq ?_
                  refine k_region rfl ?_
                  obtain ⟨m2, hm2, hme2⟩ : ∃ m : Nat, (((k + 1) : Nat) + 1 : Int) % 2 = (m : Int) ∧ ((k + 1) + 1) % 2 = m := ⟨((k + 1) + 1) % 2, by omega, rfl⟩
                  have hKm : Kp (Ce.upd (Ce.upd s m (enc ((k : Int) + 1) next)) m2 (enc ((((k + 1) : Nat) : Int) + 1) [109, 111, 114, 101])) ((k + 1) + 1) [109, 111, 114, 101] := by rw [← hme2]; exact Kp_next hKn
                  refine a_op ?_
                  refine a_callp [.r 29 1 0, .r 3 5 0] [] [] false (keep_ok Γ (Ce.upd s m (enc ((k : Int) + 1) next)) 0 0 (k + 1) (by omega) m2 (by omega) [109, 111, 114, 101] (by decide) next (by omega) (by omega) (by omega)) ?_
                  refine a_op ?_
                  refine s_nil (r_false ?_)
                  refine q_next ?_
                  refine k_seq ?_
                  refine k_region rfl ?_
                  refine a_op ?_
                  refine a_op ?_
                  refine a_callp [.r 3 5 0] [] [] false (Ce.fallN Γ (Ce.upd (Ce.upd s m (enc ((k : Int) + 1) next)) m2 (enc ((((k + 1) : Nat) : Int) + 1) [109, 111, 114, 101])) 0 (0 + 2) false 0 [] (by decide)) ?_
                  refine s_nil (r_false ?_)
                  refine q_next ?_
                  refine k_seq ?_
                  refine k_region rfl ?_
                  refine a_op ?_
                  refine a_callp [.r 3 5 0] [] [] false (Open_kp Γ hE (Ce.upd (Ce.upd s m (enc ((k : Int) + 1) next)) m2 (enc ((((k + 1) : Nat) : Int) + 1) [109, 111, 114, 101])) 0 0 ((k + 1) + 1) [109, 111, 114, 101] hKm (by omega)) ?_
                  iterate 5 refine a_op ?_
                  refine s_nil (r_false ?_)
                  refine q_next ?_
                  refine k_seq ?_
                  refine k_region rfl ?_
                  refine a_op ?_
                  refine a_call [] false (num_good Γ 0) ?_
                  refine a_op ?_
                  refine a_op ?_
                  refine a_go ?_
                  refine a_callgo [] false (num_good Γ 0) ?_
                  refine a_go ?_
                  refine a_op ?_
                  refine a_op ?_
                  refine a_go ?_
                  refine a_bygo (spec_ptrNil true rfl rfl (by kernel_rfl)) ?_
                  refine a_op ?_
                  refine a_op ?_
                  refine a_go ?_
                  refine a_callpgo [.r 34 1 0, .r 3 5 0] [] [] false (last_good Γ (Ce.upd (Ce.upd s m (enc ((k : Int) + 1) next)) m2 (enc ((((k + 1) : Nat) : Int) + 1) [109, 111, 114, 101])) 0 0 false (.t (.v (.slice none 0 0))) ((((k + 1) : Nat) : Int) + 1) [109, 111, 114, 101] false) ?_
                  refine a_go ?_
                  refine a_op ?_
                  refine a_op ?_
                  refine a_callgo [] false (awake_good Γ hE) ?_
                  refine a_op ?_
                  refine a_op ?_
                  refine s_nil (r_false ?_)
                  refine q_next ?_
                  refine k_ret ?_
                  refine ⟨.inr rfl, a_ret [] (by rw [results6]) ?_ ?_ ?_⟩ <;> simp [-List.map_set, -List.map_replicate, -List.reduceReplicate, -List.map_map, -List.map_drop, -List.map_take, num, bol, txt, w8, w16, w32, w64, lst, cls, rowO, boxO, List.take_of_length_le, Wr.cellsL_len, wA, Wr.k_mk, Wr.n_mk, Wr.s_mk, Wr.l_mk, Wr.cellsL, Wr.z_eq]
              · first | have hF := fall_yes (s := s) (m := m) (x := enc ((k : Int) + 1) next) hkk | have hF := fall_no (s := s) (m := m) (x := enc ((k : Int) + 1) next) hkk
                iterate 3 refine a_op ?_
                refine a_callp [.r 3 5 0, .r 16 2 0] [] [.r 16 2 0] false ((by have h := Ce.fallR Γ s [(m, enc ((k : Int) + 1) next)] (by simp) (in4_one (by omega)) cr1 ct1 dn1 0 ks (Nat.le_trans hy (by decide)); rw [hF] at h; exact h)) ?_
                refine s_nil (r_false ?_)
                refine q_next ?_
                refine k_seq ?_
                refine k_region rfl ?_
                refine a_op ?_
                refine a_callp [.r 3 5 0] [] [] false (Open_kp Γ hE s 0 0 k held hK (by omega)) ?_
                iterate 5 refine a_op ?_
                refine s_nil (r_false ?_)
                refine q_next ?_
                refine k_seq ?_
                refine k_seq ?_
                refine k_region rfl ?_
                skip
                refine a_op ?_
                refine a_call [] false (num_good Γ 0) ?_
                refine a_op ?_
                refine a_op ?_
                refine a_go ?_
                refine a_bygo (spec_ptrNil false rfl rfl (by kernel_rfl)) ?_
                refine a_op ?_
                refine a_op ?_
                refine a_go ?_
                refine a_callpgo [.r 29 1 0, .r 3 5 0] [] [] false (last_good Γ s 0 0 false (.t (.v (.slice none 0 0))) k held false) ?_
                refine a_go ?_
                refine a_go ?_
                refine a_go ?_
                refine a_no ?_
                refine a_no ?_
                refine a_no ?_
                refine a_no ?_
                refine a_go ?_
                refine a_op ?_
                refine s_nil (r_false ?_)
                refine q_next ?_
                refine a_false ?_
                refine k_skip ?_
                refine q_next ?_
                refine k_seq ?_
                refine k_region rfl ?_
                obtain ⟨m2, hm2, hme2⟩ : ∃ m : Nat, ((k : Nat) + 1 : Int) % 2 = (m : Int) ∧ (k + 1) % 2 = m := ⟨(k + 1) % 2, by omega, rfl⟩
                have hKm : Kp (Ce.upd s m2 (enc (((k : Nat) : Int) + 1) [109, 111, 114, 101])) (k + 1) [109, 111, 114, 101] := by rw [← hme2]; exact Kp_next hK
                refine a_op ?_
                refine a_callp [.r 29 1 0, .r 3 5 0] [] [] false (keep_ok Γ s 0 0 k (by omega) m2 (by omega) [109, 111, 114, 101] (by decide) held (by omega) (by omega) (by omega)) ?_
                refine a_op ?_
                refine s_nil (r_false ?_)
                refine q_next ?_
                refine k_seq ?_
                refine k_region rfl ?_
                refine a_op ?_
                refine a_op ?_
                refine a_callp [.r 3 5 0] [] [] false (Ce.fallN Γ (Ce.upd s m2 (enc (((k : Nat) : Int) + 1) [109, 111, 114, 101])) 0 (0 + 2) false 0 [] (by decide)) ?_
                refine s_nil (r_false ?_)
                refine q_next ?_
                refine k_seq ?_
                refine k_region rfl ?_
                refine a_op ?_
                refine a_callp [.r 3 5 0] [] [] false (Open_kp Γ hE (Ce.upd s m2 (enc (((k : Nat) : Int) + 1) [109, 111, 114, 101])) 0 0 (k + 1) [109, 111, 114, 101] hKm (by omega)) ?_
                iterate 5 refine a_op ?_
                refine s_nil (r_false ?_)
                refine q_next ?_
                refine k_seq ?_
                refine k_region rfl ?_
                refine a_op ?_
                refine a_call [] false (num_good Γ 0) ?_
                refine a_op ?_
                refine a_op ?_
                refine a_go ?_
                refine a_callgo [] false (num_good Γ 0) ?_
                refine a_go ?_
                refine a_op ?_
                refine a_op ?_
                refine a_go ?_
                refine a_bygo (spec_ptrNil true rfl rfl (by kernel_rfl)) ?_
                refine a_op ?_
                refine a_op ?_
                refine a_go ?_
                refine a_callpgo [.r 34 1 0, .r 3 5 0] [] [] false (last_good Γ (Ce.upd s m2 (enc (((k : Nat) : Int) + 1) [109, 111, 114, 101])) 0 0 false (.t (.v (.slice none 0 0))) (((k : Nat) : Int) + 1) [109, 111, 114, 101] false) ?_
                refine a_go ?_
                refine a_op ?_
                refine a_op ?_
                refine a_callgo [] false (awake_good Γ hE) ?_
                refine a_op ?_
                refine a_op ?_
                refine s_nil (r_false ?_)
                refine q_next ?_
                refine k_ret ?_
                refine ⟨.inr rfl, a_ret [] (by rw [results6]) ?_ ?_ ?_⟩ <;> simp [-List.map_set, -List.map_replicate, -List.reduceReplicate, -List.map_map, -List.map_drop, -List.map_take, num, bol, txt, w8, w16, w32, w64, lst, cls, rowO, boxO, List.take_of_length_le, Wr.cellsL_len, wA, Wr.k_mk, Wr.n_mk, Wr.s_mk, Wr.l_mk, Wr.cellsL, Wr.z_eq]
          · refine a_st ?_
            refine k_seq ?_
            refine k_seq ?_
            refine k_region rfl ?_
            iterate 4 refine a_op ?_
            refine s_nil (r_false ?_)
            refine q_next ?_
            refine a_if (fun hc7 => ?_) (fun hc7 => ?_)
            · (try simp only [Bool.and_eq_true, Bool.or_eq_true, Bool.or_eq_false_iff, Bool.not_eq_true', Bool.not_eq_false', dec_t, dec_f, Bool.and_eq_false_imp, beq_iff_eq, beq_eq_false_iff_ne, ne_eq] at hc7)
              refine k_skip ?_
              refine q_next ?_
              refine k_seq ?_
              refine k_block ?_
              refine k_seq ?_
              refine k_region rfl ?_
              skip
              iterate 5 refine a_op ?_
              obtain ⟨e8, he8⟩ : ∃ e, fs.getD j 0 = e := ⟨_, rfl⟩
              simp only [he8]
              have hx9 := e8.toNat_lt
              obtain ⟨cr2, hcr3⟩ : ∃ cr : Int, 1 + (e8.toNat : Int) % 4 = cr := ⟨_, rfl⟩
              refine a_op ?_
              refine a_op ?_
              refine a_op (hs := by (simp (disch := first | omega | (simp only [List.length_drop, List.length_take, List.length_map, List.length_append, List.length_cons, List.length_nil, List.length_replicate, List.length_set] <;> omega) | (simp only [push_cast] <;> omega) | fail) only [push_cast, reduceCtorEq, Nat.reduceAdd, Nat.reduceSub, Nat.reduceMul, Nat.reduceEqDiff, Nat.reduceLT, Nat.reduceLeDiff, Nat.reduceMod, Nat.reduceDiv, Int.reduceLE, Int.reduceLT, Int.reduceEq, Int.reduceToNat, Int.reduceAdd, Int.reduceSub, Int.reduceMul, Int.reduceNeg, hcr3] <;> rfl)) ?_
              refine a_op ?_
              refine a_op ?_
              refine a_callp [.r 3 5 0] [] [] false (Ce.fallN Γ s1 cr1 ct1 dn1 cr2 ks (Nat.le_trans hy (by decide))) ?_
              refine s_nil (r_false ?_)
              refine q_next ?_
              refine k_seq ?_
              refine k_region rfl ?_
              refine a_op ?_
              refine a_callp [.r 3 5 0] [] [] false (Open_kp Γ hE s1 cr2 0 kk t hK1 (by omega)) ?_
              iterate 5 refine a_op ?_
              refine s_nil (r_false ?_)
              refine q_next ?_
              refine k_seq ?_
              refine k_region rfl ?_
              have hbb : ∃ b, (t == held) = b := ⟨_, rfl⟩
              obtain ⟨b, hbe⟩ := hbb
              have hnx : b = false → (t == next) = true := by
                intro hb
                subst hb
                rcases ht with rfl | rfl
                · simp at hbe
                · simp
              rcases b with _ | _
              · first | (have hnx := hnx rfl) | skip
                refine a_op ?_
                refine a_call [] false (num_good Γ 0) ?_
                refine a_op ?_
                refine a_op ?_
                refine a_no ?_
                refine a_no ?_
                refine a_no ?_
                refine a_no ?_
                refine a_no ?_
                refine a_no ?_
                refine a_no ?_
                refine a_op ?_
                refine a_op ?_
                refine a_go ?_
                refine a_callgo [] false (num_good Γ 0) ?_
                refine a_go ?_
                refine a_go ?_
                refine a_go ?_
                refine a_bygo (spec_ptrNil false rfl rfl (by kernel_rfl)) ?_
                refine a_go ?_
                refine a_go ?_
                refine a_callpgo [.r 25 1 0, .r 3 5 0] [] [] false (last_good Γ s1 cr2 0 false (.t (.v (.slice none 0 0))) kk t false) ?_
                refine a_go ?_
                refine a_go (hs := by (simp (disch := first | omega | (simp only [List.length_drop, List.length_take, List.length_map, List.length_append, List.length_cons, List.length_nil, List.length_replicate, List.length_set] <;> omega) | (simp only [push_cast] <;> omega) | fail) only [push_cast, reduceCtorEq, Nat.reduceAdd, Nat.reduceSub, Nat.reduceMul, Nat.reduceEqDiff, Nat.reduceLT, Nat.reduceLeDiff, Nat.reduceMod, Nat.reduceDiv, Int.reduceLE, Int.reduceLT, Int.reduceEq, Int.reduceToNat, Int.reduceAdd, Int.reduceSub, Int.reduceMul, Int.reduceNeg, hbe] <;> rfl)) ?_
                refine a_go ?_
                refine a_go ?_
                refine a_callpgo [.r 25 1 0, .r 3 5 0] [] [] false (last_good Γ s1 cr2 0 false (.t (.v (.slice none 0 0))) kk t false) ?_
                refine a_go ?_
                refine a_go (hs := by (simp (disch := first | omega | (simp only [List.length_drop, List.length_take, List.length_map, List.length_append, List.length_cons, List.length_nil, List.length_replicate, List.length_set] <;> omega) | (simp only [push_cast] <;> omega) | fail) only [push_cast, reduceCtorEq, Nat.reduceAdd, Nat.reduceSub, Nat.reduceMul, Nat.reduceEqDiff, Nat.reduceLT, Nat.reduceLeDiff, Nat.reduceMod, Nat.reduceDiv, Int.reduceLE, Int.reduceLT, Int.reduceEq, Int.reduceToNat, Int.reduceAdd, Int.reduceSub, Int.reduceMul, Int.reduceNeg, hnx] <;> rfl)) ?_
                refine a_go ?_
                refine a_go ?_
                refine a_go ?_
                refine a_op ?_
                refine s_nil (r_false ?_)
                refine q_next ?_
                refine a_false ?_
                refine k_skip ?_
                refine q_block (q_next ?_)
                refine k_region rfl ?_
                iterate 3 refine a_op ?_
                refine s_nil (r_false ?_)
                refine q_loopF ((j + 1, true, s1, kk, t, cr2, 0, false)) (a_le ?_) ?_ ?_
                · refine le_same ?_ ?_ ?_ <;> simp [-List.map_set, -List.map_replicate, -List.reduceReplicate, -List.map_map, -List.map_drop, -List.map_take, num, bol, txt, w8, w16, w32, w64, lst, cls, rowO, boxO, List.take_of_length_le, Wr.cellsL_len, wA, Wr.k_mk, Wr.n_mk, Wr.s_mk, Wr.l_mk, Wr.cellsL, Wr.z_eq]
                · exact ⟨⟨by simp only []; omega, hK1, by simp only []; omega, ht⟩, (fun h => by cases h)⟩
                · simp only []; omega
              · first | (have hnx := hnx rfl) | skip
                refine a_op ?_
                refine a_call [] false (num_good Γ 0) ?_
                refine a_op ?_
                refine a_op ?_
                refine a_no ?_
                refine a_no ?_
                refine a_no ?_
                refine a_no ?_
                refine a_no ?_
                refine a_no ?_
                refine a_no ?_
                refine a_op ?_
                refine a_op ?_
                refine a_go ?_
                refine a_callgo [] false (num_good Γ 0) ?_
                refine a_go ?_
                refine a_go ?_
                refine a_go ?_
                refine a_bygo (spec_ptrNil false rfl rfl (by kernel_rfl)) ?_
                refine a_go ?_
                refine a_go ?_
                refine a_callpgo [.r 25 1 0, .r 3 5 0] [] [] false (last_good Γ s1 cr2 0 false (.t (.v (.slice none 0 0))) kk t false) ?_
                refine a_go ?_
                refine a_go (hs := by (simp (disch := first | omega | (simp only [List.length_drop, List.length_take, List.length_map, List.length_append, List.length_cons, List.length_nil, List.length_replicate, List.length_set] <;> omega) | (simp only [push_cast] <;> omega) | fail) only [push_cast, reduceCtorEq, Nat.reduceAdd, Nat.reduceSub, Nat.reduceMul, Nat.reduceEqDiff, Nat.reduceLT, Nat.reduceLeDiff, Nat.reduceMod, Nat.reduceDiv, Int.reduceLE, Int.reduceLT, Int.reduceEq, Int.reduceToNat, Int.reduceAdd, Int.reduceSub, Int.reduceMul, Int.reduceNeg, hbe] <;> rfl)) ?_
                refine a_go ?_
                refine a_no ?_
                refine a_no ?_
                refine a_no ?_
                refine a_no ?_
                refine a_go ?_
                refine a_go ?_
                refine a_go ?_
                refine a_op ?_
                refine s_nil (r_false ?_)
                refine q_next ?_
                refine a_false ?_
                refine k_skip ?_
                refine q_block (q_next ?_)
                refine k_region rfl ?_
                iterate 3 refine a_op ?_
                refine s_nil (r_false ?_)
                refine q_loopF ((j + 1, true, s1, kk, t, cr2, 0, false)) (a_le ?_) ?_ ?_
                · refine le_same ?_ ?_ ?_ <;> simp [-List.map_set, -List.map_replicate, -List.reduceReplicate, -List.map_map, -List.map_drop, -List.map_take, num, bol, txt, w8, w16, w32, w64, lst, cls, rowO, boxO, List.take_of_length_le, Wr.cellsL_len, wA, Wr.k_mk, Wr.n_mk, Wr.s_mk, Wr.l_mk, Wr.cellsL, Wr.z_eq]
                · exact ⟨⟨by simp only []; omega, hK1, by simp only []; omega, ht⟩, (fun h => by cases h)⟩
                · simp only []; omega
            · (try simp only [Bool.and_eq_true, Bool.or_eq_true, Bool.or_eq_false_iff, Bool.not_eq_true', Bool.not_eq_false', dec_t, dec_f, Bool.and_eq_false_imp, beq_iff_eq, beq_eq_false_iff_ne, ne_eq] at hc7)
              refine k_exit ?_
              refine q_seq_exit (q_loopF_exit (q_block_exit (q_next ?_)))
              refine k_seq ?_
              refine k_region rfl ?_
              skip
              iterate 3 refine a_op ?_
              refine a_callp [.r 3 5 0] [] [] false (Ce.fallN Γ s1 cr1 ct1 dn1 0 ks (Nat.le_trans hy (by decide))) ?_
              refine s_nil (r_false ?_)
              refine q_next ?_
              refine k_seq ?_
              refine k_region rfl ?_
              refine a_op ?_
              refine a_callp [.r 3 5 0] [] [] false (Open_kp Γ hE s1 0 0 kk t hK1 (by omega)) ?_
              iterate 5 refine a_op ?_
              refine s_nil (r_false ?_)
              refine q_next ?_
              refine k_seq ?_
              refine k_seq ?_
              refine k_region rfl ?_
              have hbb : ∃ b, (t == held) = b := ⟨_, rfl⟩
              obtain ⟨b, hbe⟩ := hbb
              have hnx : b = false → (t == next) = true := by
                intro hb
                subst hb
                rcases ht with rfl | rfl
                · simp at hbe
                · simp
              rcases b with _ | _
              · first | (have hnx := hnx rfl) | skip
                refine a_op ?_
                refine a_call [] false (num_good Γ 0) ?_
                refine a_op ?_
                refine a_op ?_
                refine a_go ?_
                refine a_bygo (spec_ptrNil false rfl rfl (by kernel_rfl)) ?_
                refine a_op ?_
                refine a_op ?_
                refine a_go ?_
                refine a_callpgo [.r 29 1 0, .r 3 5 0] [] [] false (last_good Γ s1 0 0 false (.t (.v (.slice none 0 0))) kk t false) ?_
                refine a_go ?_
                refine a_go (hs := by (simp (disch := first | omega | (simp only [List.length_drop, List.length_take, List.length_map, List.length_append, List.length_cons, List.length_nil, List.length_replicate, List.length_set] <;> omega) | (simp only [push_cast] <;> omega) | fail) only [push_cast, reduceCtorEq, Nat.reduceAdd, Nat.reduceSub, Nat.reduceMul, Nat.reduceEqDiff, Nat.reduceLT, Nat.reduceLeDiff, Nat.reduceMod, Nat.reduceDiv, Int.reduceLE, Int.reduceLT, Int.reduceEq, Int.reduceToNat, Int.reduceAdd, Int.reduceSub, Int.reduceMul, Int.reduceNeg, hbe] <;> rfl)) ?_
                refine a_go ?_
                refine a_go ?_
                refine a_callpgo [.r 29 1 0, .r 3 5 0] [] [] false (last_good Γ s1 0 0 false (.t (.v (.slice none 0 0))) kk t false) ?_
                refine a_go ?_
                refine a_go (hs := by (simp (disch := first | omega | (simp only [List.length_drop, List.length_take, List.length_map, List.length_append, List.length_cons, List.length_nil, List.length_replicate, List.length_set] <;> omega) | (simp only [push_cast] <;> omega) | fail) only [push_cast, reduceCtorEq, Nat.reduceAdd, Nat.reduceSub, Nat.reduceMul, Nat.reduceEqDiff, Nat.reduceLT, Nat.reduceLeDiff, Nat.reduceMod, Nat.reduceDiv, Int.reduceLE, Int.reduceLT, Int.reduceEq, Int.reduceToNat, Int.reduceAdd, Int.reduceSub, Int.reduceMul, Int.reduceNeg, hnx] <;> rfl)) ?_
                refine a_go ?_
                refine a_op ?_
                refine s_nil (r_false ?_)
                refine q_next ?_
                refine a_false ?_
                refine k_skip ?_
                refine q_next ?_
                refine k_seq ?_
                refine k_region rfl ?_
                obtain ⟨m2, hm2, hme2⟩ : ∃ m : Nat, ((kk : Nat) + 1 : Int) % 2 = (m : Int) ∧ (kk + 1) % 2 = m := ⟨(kk + 1) % 2, by omega, rfl⟩
                have hKm : Kp (Ce.upd s1 m2 (enc (((kk : Nat) : Int) + 1) [109, 111, 114, 101])) (kk + 1) [109, 111, 114, 101] := by rw [← hme2]; exact Kp_next hK1
                refine a_op ?_
                refine a_callp [.r 29 1 0, .r 3 5 0] [] [] false (keep_ok Γ s1 0 0 kk (by omega) m2 (by omega) [109, 111, 114, 101] (by decide) t (by omega) (by omega) (by omega)) ?_
                refine a_op ?_
                refine s_nil (r_false ?_)
                refine q_next ?_
                refine k_seq ?_
                refine k_region rfl ?_
                refine a_op ?_
                refine a_op ?_
                refine a_callp [.r 3 5 0] [] [] false (Ce.fallN Γ (Ce.upd s1 m2 (enc (((kk : Nat) : Int) + 1) [109, 111, 114, 101])) 0 (0 + 2) false 0 [] (by decide)) ?_
                refine s_nil (r_false ?_)
                refine q_next ?_
                refine k_seq ?_
                refine k_region rfl ?_
                refine a_op ?_
                refine a_callp [.r 3 5 0] [] [] false (Open_kp Γ hE (Ce.upd s1 m2 (enc (((kk : Nat) : Int) + 1) [109, 111, 114, 101])) 0 0 (kk + 1) [109, 111, 114, 101] hKm (by omega)) ?_
                iterate 5 refine a_op ?_
                refine s_nil (r_false ?_)
                refine q_next ?_
                refine k_seq ?_
                refine k_region rfl ?_
                refine a_op ?_
                refine a_call [] false (num_good Γ 0) ?_
                refine a_op ?_
                refine a_op ?_
                refine a_go ?_
                refine a_callgo [] false (num_good Γ 0) ?_
                refine a_go ?_
                refine a_op ?_
                refine a_op ?_
                refine a_go ?_
                refine a_bygo (spec_ptrNil true rfl rfl (by kernel_rfl)) ?_
                refine a_op ?_
                refine a_op ?_
                refine a_go ?_
                refine a_callpgo [.r 34 1 0, .r 3 5 0] [] [] false (last_good Γ (Ce.upd s1 m2 (enc (((kk : Nat) : Int) + 1) [109, 111, 114, 101])) 0 0 false (.t (.v (.slice none 0 0))) (((kk : Nat) : Int) + 1) [109, 111, 114, 101] false) ?_
                refine a_go ?_
                refine a_op ?_
                refine a_op ?_
                refine a_callgo [] false (awake_good Γ hE) ?_
                refine a_op ?_
                refine a_op ?_
                refine s_nil (r_false ?_)
                refine q_next ?_
                refine k_ret ?_
                refine ⟨.inr rfl, a_ret [] (by rw [results6]) ?_ ?_ ?_⟩ <;> simp [-List.map_set, -List.map_replicate, -List.reduceReplicate, -List.map_map, -List.map_drop, -List.map_take, num, bol, txt, w8, w16, w32, w64, lst, cls, rowO, boxO, List.take_of_length_le, Wr.cellsL_len, wA, Wr.k_mk, Wr.n_mk, Wr.s_mk, Wr.l_mk, Wr.cellsL, Wr.z_eq]
              · first | (have hnx := hnx rfl) | skip
                refine a_op ?_
                refine a_call [] false (num_good Γ 0) ?_
                refine a_op ?_
                refine a_op ?_
                refine a_go ?_
                refine a_bygo (spec_ptrNil false rfl rfl (by kernel_rfl)) ?_
                refine a_op ?_
                refine a_op ?_
                refine a_go ?_
                refine a_callpgo [.r 29 1 0, .r 3 5 0] [] [] false (last_good Γ s1 0 0 false (.t (.v (.slice none 0 0))) kk t false) ?_
                refine a_go ?_
                refine a_go (hs := by (simp (disch := first | omega | (simp only [List.length_drop, List.length_take, List.length_map, List.length_append, List.length_cons, List.length_nil, List.length_replicate, List.length_set] <;> omega) | (simp only [push_cast] <;> omega) | fail) only [push_cast, reduceCtorEq, Nat.reduceAdd, Nat.reduceSub, Nat.reduceMul, Nat.reduceEqDiff, Nat.reduceLT, Nat.reduceLeDiff, Nat.reduceMod, Nat.reduceDiv, Int.reduceLE, Int.reduceLT, Int.reduceEq, Int.reduceToNat, Int.reduceAdd, Int.reduceSub, Int.reduceMul, Int.reduceNeg, hbe] <;> rfl)) ?_
                refine a_go ?_
                refine a_no ?_
                refine a_no ?_
                refine a_no ?_
                refine a_no ?_
                refine a_go ?_
                refine a_op ?_
                refine s_nil (r_false ?_)
                refine q_next ?_
                refine a_false ?_
                refine k_skip ?_
                refine q_next ?_
                refine k_seq ?_
                refine k_region rfl ?_
                obtain ⟨m2, hm2, hme2⟩ : ∃ m : Nat, ((kk : Nat) + 1 : Int) % 2 = (m : Int) ∧ (kk + 1) % 2 = m := ⟨(kk + 1) % 2, by omega, rfl⟩
                have hKm : Kp (Ce.upd s1 m2 (enc (((kk : Nat) : Int) + 1) [109, 111, 114, 101])) (kk + 1) [109, 111, 114, 101] := by rw [← hme2]; exact Kp_next hK1
                refine a_op ?_
                refine a_callp [.r 29 1 0, .r 3 5 0] [] [] false (keep_ok Γ s1 0 0 kk (by omega) m2 (by omega) [109, 111, 114, 101] (by decide) t (by omega) (by omega) (by omega)) ?_
                refine a_op ?_
                refine s_nil (r_false ?_)
                refine q_next ?_
                refine k_seq ?_
                refine k_region rfl ?_
                refine a_op ?_
                refine a_op ?_
                refine a_callp [.r 3 5 0] [] [] false (Ce.fallN Γ (Ce.upd s1 m2 (enc (((kk : Nat) : Int) + 1) [109, 111, 114, 101])) 0 (0 + 2) false 0 [] (by decide)) ?_
                refine s_nil (r_false ?_)
                refine q_next ?_
                refine k_seq ?_
                refine k_region rfl ?_
                refine a_op ?_
                refine a_callp [.r 3 5 0] [] [] false (Open_kp Γ hE (Ce.upd s1 m2 (enc (((kk : Nat) : Int) + 1) [109, 111, 114, 101])) 0 0 (kk + 1) [109, 111, 114, 101] hKm (by omega)) ?_
                iterate 5 refine a_op ?_
                refine s_nil (r_false ?_)
                refine q_next ?_
                refine k_seq ?_
                refine k_region rfl ?_
                refine a_op ?_
                refine a_call [] false (num_good Γ 0) ?_
                refine a_op ?_
                refine a_op ?_
                refine a_go ?_
                refine a_callgo [] false (num_good Γ 0) ?_
                refine a_go ?_
                refine a_op ?_
                refine a_op ?_
                refine a_go ?_
                refine a_bygo (spec_ptrNil true rfl rfl (by kernel_rfl)) ?_
                refine a_op ?_
                refine a_op ?_
                refine a_go ?_
                refine a_callpgo [.r 34 1 0, .r 3 5 0] [] [] false (last_good Γ (Ce.upd s1 m2 (enc (((kk : Nat) : Int) + 1) [109, 111, 114, 101])) 0 0 false (.t (.v (.slice none 0 0))) (((kk : Nat) : Int) + 1) [109, 111, 114, 101] false) ?_
                refine a_go ?_
                refine a_op ?_
                refine a_op ?_
                refine a_callgo [] false (awake_good Γ hE) ?_
                refine a_op ?_
                refine a_op ?_
                refine s_nil (r_false ?_)
                refine q_next ?_
                refine k_ret ?_
                refine ⟨.inr rfl, a_ret [] (by rw [results6]) ?_ ?_ ?_⟩ <;> simp [-List.map_set, -List.map_replicate, -List.reduceReplicate, -List.map_map, -List.map_drop, -List.map_take, num, bol, txt, w8, w16, w32, w64, lst, cls, rowO, boxO, List.take_of_length_le, Wr.cellsL_len, wA, Wr.k_mk, Wr.n_mk, Wr.s_mk, Wr.l_mk, Wr.cellsL, Wr.z_eq]
      · refine a_st ?_
        refine k_seq ?_
        refine k_seq ?_
        refine k_region rfl ?_
        refine a_op ?_
        refine s_nil (r_false ?_)
        refine q_next ?_
        refine k_block ?_
        refine k_loopF (fun sl L (q : LQ) => ⟨setAll (setBad sl [0, 1, 8, 10, 11, 14, 16, 17, 23, 24, 25, 26, 27, 28, 29, 30, 31, 32, 33, 34, 35, 36, 37, 38, 39, 40, 41, 42, 43, 44, 45, 46, 47, 48, 49, 50, 51, 52, 53, 54, 55, 56, 57, 58, 59, 60, 61, 62, 63, 64, 65, 66, 67, 68, 69, 70, 71, 72, 73, 74, 75, 76, 77, 78, 79, 80, 81, 82, 83, 84, 85, 86, 87, 88, 89, 90, 91, 92, 93, 94, 95, 96, 97, 98, 99, 100, 101, 102, 103, 104, 105, 106, 107, 108, 109, 110, 111, 112, 113, 114, 115, 116, 117, 118, 119, 120, 121, 122, 123, 124, 125, 126, 127, 128, 129, 130, 131, 132, 133, 134, 135, 136, 137, 138, 139, 140, 141, 142, 143, 144, 145, 146, 147, 148, 149, 150, 151, 152, 153, 154, 155, 156, 157, 158, 159, 160, 161, 162, 163]) [(15, .t (num q.1))], Go.Ot.look (putL (.r 3 5 0) (boxO 47 [.t (txt (q.2.2.1 0)), .t (txt (q.2.2.1 1)), .t (txt (q.2.2.1 2)), .t (txt (q.2.2.1 3)), .t (.v (.slice none 0 0)), .t (num (q.2.2.2.2.2.1)), .t (.v (.slice none 0 0)), .t (num (q.2.2.2.2.2.2.1)), .t (bol (q.2.2.2.2.2.2.2))]) [])⟩) (LI fs.length k held next) (fun q => fs.length - q.1) ((0, true, s, k, held, cr, ct, dn)) (a_le ?_) ?_ ?_
        · refine le_same ?_ ?_ ?_ <;> simp [-List.map_set, -List.map_replicate, -List.reduceReplicate, -List.map_map, -List.map_drop, -List.map_take, num, bol, txt, w8, w16, w32, w64, lst, cls, rowO, boxO, List.take_of_length_le, Wr.cellsL_len, wA, Wr.k_mk, Wr.n_mk, Wr.s_mk, Wr.l_mk, Wr.cellsL, Wr.z_eq]
        · exact ⟨Nat.zero_le _, hK, Nat.le_refl _, .inl rfl⟩
        · rintro ⟨j, z1, s1, kk, t, cr1, ct1, dn1⟩ ⟨hj, hK1, hkk1, ht⟩
          simp only at hj hK1 hkk1 ht
          refine a_st ?_
          refine k_seq ?_
          refine k_seq ?_
          refine k_region rfl ?_
          iterate 4 refine a_op ?_
          refine s_nil (r_false ?_)
          refine q_next ?_
          refine a_if (fun hc7 => ?_) (fun hc7 => ?_)
          · (try simp only [Bool.and_eq_true, Bool.or_eq_true, Bool.or_eq_false_iff, Bool.not_eq_true', Bool.not_eq_false', dec_t, dec_f, Bool.and_eq_false_imp, beq_iff_eq, beq_eq_false_iff_ne, ne_eq] at hc7)
            refine k_skip ?_
            refine q_next ?_
            refine k_seq ?_
            refine k_block ?_
            refine k_seq ?_
            refine k_region rfl ?_
            skip
            iterate 5 refine a_op ?_
            obtain ⟨e8, he8⟩ : ∃ e, fs.getD j 0 = e := ⟨_, rfl⟩
            simp only [he8]
            have hx9 := e8.toNat_lt
            obtain ⟨cr2, hcr3⟩ : ∃ cr : Int, 1 + (e8.toNat : Int) % 4 = cr := ⟨_, rfl⟩
            refine a_op ?_
            refine a_op ?_
            refine a_op (hs := by (simp (disch := first | omega | (simp only [List.length_drop, List.length_take, List.length_map, List.length_append, List.length_cons, List.length_nil, List.length_replicate, List.length_set] <;> omega) | (simp only [push_cast] <;> omega) | fail) only [push_cast, reduceCtorEq, Nat.reduceAdd, Nat.reduceSub, Nat.reduceMul, Nat.reduceEqDiff, Nat.reduceLT, Nat.reduceLeDiff, Nat.reduceMod, Nat.reduceDiv, Int.reduceLE, Int.reduceLT, Int.reduceEq, Int.reduceToNat, Int.reduceAdd, Int.reduceSub, Int.reduceMul, Int.reduceNeg, hcr3] <;> rfl)) ?_
            refine a_op ?_
            refine a_op ?_
            refine a_callp [.r 3 5 0] [] [] false (Ce.fallN Γ s1 cr1 ct1 dn1 cr2 ks (Nat.le_trans hy (by decide))) ?_
            refine s_nil (r_false ?_)
            refine q_next ?_
            refine k_seq ?_
            refine k_region rfl ?_
            refine a_op ?_
            refine a_callp [.r 3 5 0] [] [] false (Open_kp Γ hE s1 cr2 0 kk t hK1 (by omega)) ?_
            iterate 5 refine a_op ?_
            refine s_nil (r_false ?_)
            refine q_next ?_
            refine k_seq ?_
            refine k_region rfl ?_
            have hbb : ∃ b, (t == held) = b := ⟨_, rfl⟩
            obtain ⟨b, hbe⟩ := hbb
            have hnx : b = false → (t == next) = true := by
              intro hb
              subst hb
              rcases ht with rfl | rfl
              · simp at hbe
              · simp
            rcases b with _ | _
            · first | (have hnx := hnx rfl) | skip
              refine a_op ?_
              refine a_call [] false (num_good Γ 0) ?_
              refine a_op ?_
              refine a_op ?_
              refine a_no ?_
              refine a_no ?_
              refine a_no ?_
              refine a_no ?_
              refine a_no ?_
              refine a_no ?_
              refine a_no ?_
              refine a_op ?_
              refine a_op ?_
              refine a_go ?_
              refine a_callgo [] false (num_good Γ 0) ?_
              refine a_go ?_
              refine a_go ?_
              refine a_go ?_
              refine a_bygo (spec_ptrNil false rfl rfl (by kernel_rfl)) ?_
              refine a_go ?_
              refine a_go ?_
              refine a_callpgo [.r 25 1 0, .r 3 5 0] [] [] false (last_good Γ s1 cr2 0 false (.t (.v (.slice none 0 0))) kk t false) ?_
              refine a_go ?_
              refine a_go (hs := by (simp (disch := first | omega | (simp only [List.length_drop, List.length_take, List.length_map, List.length_append, List.length_cons, List.length_nil, List.length_replicate, List.length_set] <;> omega) | (simp only [push_cast] <;> omega) | fail) only [push_cast, reduceCtorEq, Nat.reduceAdd, Nat.reduceSub, Nat.reduceMul, Nat.reduceEqDiff, Nat.reduceLT, Nat.reduceLeDiff, Nat.reduceMod, Nat.reduceDiv, Int.reduceLE, Int.reduceLT, Int.reduceEq, Int.reduceToNat, Int.reduceAdd, Int.reduceSub, Int.reduceMul, Int.reduceNeg, hbe] <;> rfl)) ?_
              refine a_go ?_
              refine a_go ?_
              refine a_callpgo [.r 25 1 0, .r 3 5 0] [] [] false (last_good Γ s1 cr2 0 false (.t (.v (.slice none 0 0))) kk t false) ?_
              refine a_go ?_
              refine a_go (hs := by (simp (disch := first | omega | (simp only [List.length_drop, List.length_take, List.length_map, List.length_append, List.length_cons, List.length_nil, List.length_replicate, List.length_set] <;> omega) | (simp only [push_cast] <;> omega) | fail) only [push_cast, reduceCtorEq, Nat.reduceAdd, Nat.reduceSub, Nat.reduceMul, Nat.reduceEqDiff, Nat.reduceLT, Nat.reduceLeDiff, Nat.reduceMod, Nat.reduceDiv, Int.reduceLE, Int.reduceLT, Int.reduceEq, Int.reduceToNat, Int.reduceAdd, Int.reduceSub, Int.reduceMul, Int.reduceNeg, hnx] <;> rfl)) ?_
              refine a_go ?_
              refine a_go ?_
              refine a_go ?_
              refine a_op ?_
              refine s_nil (r_false ?_)
              refine q_next ?_
              refine a_false ?_
              refine k_skip ?_
              refine q_block (q_next ?_)
              refine k_region rfl ?_
              iterate 3 refine a_op ?_
              refine s_nil (r_false ?_)
              refine q_loopF ((j + 1, true, s1, kk, t, cr2, 0, false)) (a_le ?_) ?_ ?_
              · refine le_same ?_ ?_ ?_ <;> simp [-List.map_set, -List.map_replicate, -List.reduceReplicate, -List.map_map, -List.map_drop, -List.map_take, num, bol, txt, w8, w16, w32, w64, lst, cls, rowO, boxO, List.take_of_length_le, Wr.cellsL_len, wA, Wr.k_mk, Wr.n_mk, Wr.s_mk, Wr.l_mk, Wr.cellsL, Wr.z_eq]
              · exact ⟨by simp only []; omega, hK1, by simp only []; omega, ht⟩
              · simp only []; omega
            · first | (have hnx := hnx rfl) | skip
              refine a_op ?_
              refine a_call [] false (num_good Γ 0) ?_
              refine a_op ?_
              refine a_op ?_
              refine a_no ?_
              refine a_no ?_
              refine a_no ?_
              refine a_no ?_
              refine a_no ?_
              refine a_no ?_
              refine a_no ?_
              refine a_op ?_
              refine a_op ?_
              refine a_go ?_
              refine a_callgo [] false (num_good Γ 0) ?_
              refine a_go ?_
              refine a_go ?_
              refine a_go ?_
              refine a_bygo (spec_ptrNil false rfl rfl (by kernel_rfl)) ?_
              refine a_go ?_
              refine a_go ?_
              refine a_callpgo [.r 25 1 0, .r 3 5 0] [] [] false (last_good Γ s1 cr2 0 false (.t (.v (.slice none 0 0))) kk t false) ?_
              refine a_go ?_
              refine a_go (hs := by (simp (disch := first | omega | (simp only [List.length_drop, List.length_take, List.length_map, List.length_append, List.length_cons, List.length_nil, List.length_replicate, List.length_set] <;> omega) | (simp only [push_cast] <;> omega) | fail) only [push_cast, reduceCtorEq, Nat.reduceAdd, Nat.reduceSub, Nat.reduceMul, Nat.reduceEqDiff, Nat.reduceLT, Nat.reduceLeDiff, Nat.reduceMod, Nat.reduceDiv, Int.reduceLE, Int.reduceLT, Int.reduceEq, Int.reduceToNat, Int.reduceAdd, Int.reduceSub, Int.reduceMul, Int.reduceNeg, hbe] <;> rfl)) ?_
              refine a_go ?_
              refine a_no ?_
              refine a_no ?_
              refine a_no ?_
              refine a_no ?_
              refine a_go ?_
              refine a_go ?_
              refine a_go ?_
              refine a_op ?_
              refine s_nil (r_false ?_)
              refine q_next ?_
              refine a_false ?_
              refine k_skip ?_
              refine q_block (q_next ?_)
              refine k_region rfl ?_
              iterate 3 refine a_op ?_
              refine s_nil (r_false ?_)
              refine q_loopF ((j + 1, true, s1, kk, t, cr2, 0, false)) (a_le ?_) ?_ ?_
              · refine le_same ?_ ?_ ?_ <;> simp [-List.map_set, -List.map_replicate, -List.reduceReplicate, -List.map_map, -List.map_drop, -List.map_take, num, bol, txt, w8, w16, w32, w64, lst, cls, rowO, boxO, List.take_of_length_le, Wr.cellsL_len, wA, Wr.k_mk, Wr.n_mk, Wr.s_mk, Wr.l_mk, Wr.cellsL, Wr.z_eq]
              · exact ⟨by simp only []; omega, hK1, by simp only []; omega, ht⟩
              · simp only []; omega
          · (try simp only [Bool.and_eq_true, Bool.or_eq_true, Bool.or_eq_false_iff, Bool.not_eq_true', Bool.not_eq_false', dec_t, dec_f, Bool.and_eq_false_imp, beq_iff_eq, beq_eq_false_iff_ne, ne_eq] at hc7)
            refine k_exit ?_
            refine q_seq_exit (q_loopF_exit (q_block_exit (q_next ?_)))
            refine k_seq ?_
            refine k_region rfl ?_
            skip
            iterate 3 refine a_op ?_
            refine a_callp [.r 3 5 0] [] [] false (Ce.fallN Γ s1 cr1 ct1 dn1 0 ks (Nat.le_trans hy (by decide))) ?_
            refine s_nil (r_false ?_)
            refine q_next ?_
            refine k_seq ?_
            refine k_region rfl ?_
            refine a_op ?_
            refine a_callp [.r 3 5 0] [] [] false (Open_kp Γ hE s1 0 0 kk t hK1 (by omega)) ?_
            iterate 5 refine a_op ?_
            refine s_nil (r_false ?_)
            refine q_next ?_
            refine k_seq ?_
            refine k_seq ?_
            refine k_region rfl ?_
            have hbb : ∃ b, (t == held) = b := ⟨_, rfl⟩
            obtain ⟨b, hbe⟩ := hbb
            have hnx : b = false → (t == next) = true := by
              intro hb
              subst hb
              rcases ht with rfl | rfl
              · simp at hbe
              · simp
            rcases b with _ | _
            · first | (have hnx := hnx rfl) | skip
              refine a_op ?_
              refine a_call [] false (num_good Γ 0) ?_
              refine a_op ?_
              refine a_op ?_
              refine a_go ?_
              refine a_bygo (spec_ptrNil false rfl rfl (by kernel_rfl)) ?_
              refine a_op ?_
              refine a_op ?_
              refine a_go ?_
              refine a_callpgo [.r 29 1 0, .r 3 5 0] [] [] false (last_good Γ s1 0 0 false (.t (.v (.slice none 0 0))) kk t false) ?_
              refine a_go ?_
              refine a_go (hs := by (simp (disch := first | omega | (simp only [List.length_drop, List.length_take, List.length_map, List.length_append, List.length_cons, List.length_nil, List.length_replicate, List.length_set] <;> omega) | (simp only [push_cast] <;> omega) | fail) only [push_cast, reduceCtorEq, Nat.reduceAdd, Nat.reduceSub, Nat.reduceMul, Nat.reduceEqDiff, Nat.reduceLT, Nat.reduceLeDiff, Nat.reduceMod, Nat.reduceDiv, Int.reduceLE, Int.reduceLT, Int.reduceEq, Int.reduceToNat, Int.reduceAdd, Int.reduceSub, Int.reduceMul, Int.reduceNeg, hbe] <;> rfl)) ?_
              refine a_go ?_
              refine a_go ?_
              refine a_callpgo [.r 29 1 0, .r 3 5 0] [] [] false (last_good Γ s1 0 0 false (.t (.v (.slice none 0 0))) kk t false) ?_
              refine a_go ?_
              refine a_go (hs := by (simp (disch := first | omega | (simp only [List.length_drop, List.length_take, List.length_map, List.length_append, List.length_cons, List.length_nil, List.length_replicate, List.length_set] <;> omega) | (simp only [push_cast] <;> omega) | fail) only [push_cast, reduceCtorEq, Nat.reduceAdd, Nat.reduceSub, Nat.reduceMul, Nat.reduceEqDiff, Nat.reduceLT, Nat.reduceLeDiff, Nat.reduceMod, Nat.reduceDiv, Int.reduceLE, Int.reduceLT, Int.reduceEq, Int.reduceToNat, Int.reduceAdd, Int.reduceSub, Int.reduceMul, Int.reduceNeg, hnx] <;> rfl)) ?_
              refine a_go ?_
              refine a_op ?_
              refine s_nil (r_false ?_)
              refine q_next ?_
              refine a_false ?_
              refine k_skip ?_
              refine q_next ?_
              refine k_seq ?_
              refine k_region rfl ?_
              obtain ⟨m2, hm2, hme2⟩ : ∃ m : Nat, ((kk : Nat) + 1 : Int) % 2 = (m : Int) ∧ (kk + 1) % 2 = m := ⟨(kk + 1) % 2, by omega, rfl⟩
              have hKm : Kp (Ce.upd s1 m2 (enc (((kk : Nat) : Int) + 1) [109, 111, 114, 101])) (kk + 1) [109, 111, 114, 101] := by rw [← hme2]; exact Kp_next hK1
              refine a_op ?_
              refine a_callp [.r 29 1 0, .r 3 5 0] [] [] false (keep_ok Γ s1 0 0 kk (by omega) m2 (by omega) [109, 111, 114, 101] (by decide) t (by omega) (by omega) (by omega)) ?_
              refine a_op ?_
              refine s_nil (r_false ?_)
              refine q_next ?_
              refine k_seq ?_
              refine k_region rfl ?_
              refine a_op ?_
              refine a_op ?_
              refine a_callp [.r 3 5 0] [] [] false (Ce.fallN Γ (Ce.upd s1 m2 (enc (((kk : Nat) : Int) + 1) [109, 111, 114, 101])) 0 (0 + 2) false 0 [] (by decide)) ?_
              refine s_nil (r_false ?_)
              refine q_next ?_
              refine k_seq ?_
              refine k_region rfl ?_
              refine a_op ?_
              refine a_callp [.r 3 5 0] [] [] false (Open_kp Γ hE (Ce.upd s1 m2 (enc (((kk : Nat) : Int) + 1) [109, 111, 114, 101])) 0 0 (kk + 1) [109, 111, 114, 101] hKm (by omega)) ?_
              iterate 5 refine a_op ?_
              refine s_nil (r_false ?_)
              refine q_next ?_
              refine k_seq ?_
              refine k_region rfl ?_
              refine a_op ?_
              refine a_call [] false (num_good Γ 0) ?_
              refine a_op ?_
              refine a_op ?_
              refine a_go ?_
              refine a_callgo [] false (num_good Γ 0) ?_
              refine a_go ?_
              refine a_op ?_
              refine a_op ?_
              refine a_go ?_
              refine a_bygo (spec_ptrNil true rfl rfl (by kernel_rfl)) ?_
              refine a_op ?_
              refine a_op ?_
              refine a_go ?_
              refine a_callpgo [.r 34 1 0, .r 3 5 0] [] [] false (last_good Γ (Ce.upd s1 m2 (enc (((kk : Nat) : Int) + 1) [109, 111, 114, 101])) 0 0 false (.t (.v (.slice none 0 0))) (((kk : Nat) : Int) + 1) [109, 111, 114, 101] false) ?_
              refine a_go ?_
              refine a_op ?_
              refine a_op ?_
              refine a_callgo [] false (awake_good Γ hE) ?_
              refine a_op ?_
              refine a_op ?_
              refine s_nil (r_false ?_)
              refine q_next ?_
              refine k_ret ?_
              refine ⟨.inr rfl, a_ret [] (by rw [results6]) ?_ ?_ ?_⟩ <;> simp [-List.map_set, -List.map_replicate, -List.reduceReplicate, -List.map_map, -List.map_drop, -List.map_take, num, bol, txt, w8, w16, w32, w64, lst, cls, rowO, boxO, List.take_of_length_le, Wr.cellsL_len, wA, Wr.k_mk, Wr.n_mk, Wr.s_mk, Wr.l_mk, Wr.cellsL, Wr.z_eq]
            · first | (have hnx := hnx rfl) | skip
              refine a_op ?_
              refine a_call [] false (num_good Γ 0) ?_
              refine a_op ?_
              refine a_op ?_
              refine a_go ?_
              refine a_bygo (spec_ptrNil false rfl rfl (by kernel_rfl)) ?_
              refine a_op ?_
              refine a_op ?_
              refine a_go ?_
              refine a_callpgo [.r 29 1 0, .r 3 5 0] [] [] false (last_good Γ s1 0 0 false (.t (.v (.slice none 0 0))) kk t false) ?_
              refine a_go ?_
              refine a_go (hs := by (simp (disch := first | omega | (simp only [List.length_drop, List.length_take, List.length_map, List.length_append, List.length_cons, List.length_nil, List.length_replicate, List.length_set] <;> omega) | (simp only [push_cast] <;> omega) | fail) only [push_cast, reduceCtorEq, Nat.reduceAdd, Nat.reduceSub, Nat.reduceMul, Nat.reduceEqDiff, Nat.reduceLT, Nat.reduceLeDiff, Nat.reduceMod, Nat.reduceDiv, Int.reduceLE, Int.reduceLT, Int.reduceEq, Int.reduceToNat, Int.reduceAdd, Int.reduceSub, Int.reduceMul, Int.reduceNeg, hbe] <;> rfl)) ?_
              refine a_go ?_
              refine a_no ?_
              refine a_no ?_
              refine a_no ?_
              refine a_no ?_
              refine a_go ?_
              refine a_op ?_
              refine s_nil (r_false ?_)
              refine q_next ?_
              refine a_false ?_
              refine k_skip ?_
              refine q_next ?_
              refine k_seq ?_
              refine k_region rfl ?_
              obtain ⟨m2, hm2, hme2⟩ : ∃ m : Nat, ((kk : Nat) + 1 : Int) % 2 = (m : Int) ∧ (kk + 1) % 2 = m := ⟨(kk + 1) % 2, by omega, rfl⟩
              have hKm : Kp (Ce.upd s1 m2 (enc (((kk : Nat) : Int) + 1) [109, 111, 114, 101])) (kk + 1) [109, 111, 114, 101] := by rw [← hme2]; exact Kp_next hK1
              refine a_op ?_
              refine a_callp [.r 29 1 0, .r 3 5 0] [] [] false (keep_ok Γ s1 0 0 kk (by omega) m2 (by omega) [109, 111, 114, 101] (by decide) t (by omega) (by omega) (by omega)) ?_
              refine a_op ?_
              refine s_nil (r_false ?_)
              refine q_next ?_
              refine k_seq ?_
              refine k_region rfl ?_
              refine a_op ?_
              refine a_op ?_
              refine a_callp [.r 3 5 0] [] [] false (Ce.fallN Γ (Ce.upd s1 m2 (enc (((kk : Nat) : Int) + 1) [109, 111, 114, 101])) 0 (0 + 2) false 0 [] (by decide)) ?_
              refine s_nil (r_false ?_)
              refine q_next ?_
              refine k_seq ?_
              refine k_region rfl ?_
              refine a_op ?_
              refine a_callp [.r 3 5 0] [] [] false (Open_kp Γ hE (Ce.upd s1 m2 (enc (((kk : Nat) : Int) + 1) [109, 111, 114, 101])) 0 0 (kk + 1) [109, 111, 114, 101] hKm (by omega)) ?_
              iterate 5 refine a_op ?_
              refine s_nil (r_false ?_)
              refine q_next ?_
              refine k_seq ?_
              refine k_region rfl ?_
              refine a_op ?_
              refine a_call [] false (num_good Γ 0) ?_
              refine a_op ?_
              refine a_op ?_
              refine a_go ?_
              refine a_callgo [] false (num_good Γ 0) ?_
              refine a_go ?_
              refine a_op ?_
              refine a_op ?_
              refine a_go ?_
              refine a_bygo (spec_ptrNil true rfl rfl (by kernel_rfl)) ?_
              refine a_op ?_
              refine a_op ?_
              refine a_go ?_
              refine a_callpgo [.r 34 1 0, .r 3 5 0] [] [] false (last_good Γ (Ce.upd s1 m2 (enc (((kk : Nat) : Int) + 1) [109, 111, 114, 101])) 0 0 false (.t (.v (.slice none 0 0))) (((kk : Nat) : Int) + 1) [109, 111, 114, 101] false) ?_
              refine a_go ?_
              refine a_op ?_
              refine a_op ?_
              refine a_callgo [] false (awake_good Γ hE) ?_
              refine a_op ?_
              refine a_op ?_
              refine s_nil (r_false ?_)
              refine q_next ?_
              refine k_ret ?_
              refine ⟨.inr rfl, a_ret [] (by rw [results6]) ?_ ?_ ?_⟩ <;> simp [-List.map_set, -List.map_replicate, -List.reduceReplicate, -List.map_map, -List.map_drop, -List.map_take, num, bol, txt, w8, w16, w32, w64, lst, cls, rowO, boxO, List.take_of_length_le, Wr.cellsL_len, wA, Wr.k_mk, Wr.n_mk, Wr.s_mk, Wr.l_mk, Wr.cellsL, Wr.z_eq]

end Go.Proofs.Tryd
