/- Contracts of this program's functions. -/
import Derived.Test.YtknmmpgpddhliaaDoorSV5
set_option maxHeartbeats 4000000
set_option maxRecDepth 100000
set_option linter.unusedVariables false
set_option linter.unusedSimpArgs false
namespace Go.Proofs.Tryd
open Go Go.Ot Ce
attribute [local irreducible] wpK wpS seqK blockK loopF regK meetK OpSpec Le rdS lpW rdW got mayS mayW putS putW nb u64 PutW nowF sideF opn enc Kp
theorem two_good (Γ : Gl) (hE : EG Γ) (l : List (List UInt8)) (an : List Bool) (hl : l.length ≤ 9223372036854775807) (ha : an.length ≤ 9223372036854775807) : Go.Ot.Good Γ prog 5 [.t (lst txt l), .t (lst bol an)] [] (.t (bol true)) [] [] := by
  refine a_body F.mix func5 (by rfl) ntmps5 ?_
  refine k_seq ?_
  refine k_region rfl ?_
  refine a_op ?_
  refine s_nil (r_false ?_)
  refine q_next ?_
  refine k_seq ?_
  refine k_seq ?_
  refine k_region rfl ?_
  have h3 : 20 < l.length ∨ (l.length ≤ 20 ∧ an.length < l.length) ∨ (l.length ≤ 20 ∧ l.length ≤ an.length) := by omega
  rcases h3 with hx | ⟨hx, hy⟩ | ⟨hx, hy⟩
  · skip
    iterate 4 refine a_op ?_
    refine a_no ?_
    refine a_no ?_
    refine a_no ?_
    refine a_no ?_
    refine a_no ?_
    refine a_op ?_
    refine s_nil (r_false ?_)
    refine q_next ?_
    refine a_true ?_
    refine k_seq ?_
    refine k_region rfl ?_
    refine a_call [] false (awake_good Γ hE) ?_
    refine a_op ?_
    refine s_nil (r_false ?_)
    refine q_next ?_
    refine k_ret ?_
    refine q_seq_ret ?_
    refine ⟨.inr rfl, a_ret [] (by rw [results5]) ?_ ?_ ?_⟩ <;> simp [-List.map_set, -List.map_replicate, -List.reduceReplicate, -List.map_map, -List.map_drop, -List.map_take, num, bol, txt, w8, w16, w32, w64, lst, cls, rowO, boxO, List.take_of_length_le, Wr.cellsL_len, wA, Wr.k_mk, Wr.n_mk, Wr.s_mk, Wr.l_mk, Wr.cellsL, Wr.z_eq]
  · skip
    iterate 4 refine a_op ?_
    refine a_go ?_
    refine a_go ?_
    refine a_go ?_
    refine a_go ?_
    refine a_go ?_
    refine a_op ?_
    refine s_nil (r_false ?_)
    refine q_next ?_
    refine a_true ?_
    refine k_seq ?_
    refine k_region rfl ?_
    refine a_call [] false (awake_good Γ hE) ?_
    refine a_op ?_
    refine s_nil (r_false ?_)
    refine q_next ?_
    refine k_ret ?_
    refine q_seq_ret ?_
    refine ⟨.inr rfl, a_ret [] (by rw [results5]) ?_ ?_ ?_⟩ <;> simp [-List.map_set, -List.map_replicate, -List.reduceReplicate, -List.map_map, -List.map_drop, -List.map_take, num, bol, txt, w8, w16, w32, w64, lst, cls, rowO, boxO, List.take_of_length_le, Wr.cellsL_len, wA, Wr.k_mk, Wr.n_mk, Wr.s_mk, Wr.l_mk, Wr.cellsL, Wr.z_eq]
  · skip
    iterate 4 refine a_op ?_
    refine a_go ?_
    refine a_go ?_
    refine a_go ?_
    refine a_go ?_
    refine a_go ?_
    refine a_op ?_
    refine s_nil (r_false ?_)
    refine q_next ?_
    refine a_false ?_
    refine k_skip ?_
    refine q_next ?_
    refine k_seq ?_
    refine k_region rfl ?_
    refine a_op ?_
    refine a_call [] false (Ce.New_good Γ 0 (.v (.slice none 0 0))) ?_
    refine a_callp [.r 3 1 0] [] [] false (Open_new Γ hE 0 0) ?_
    iterate 5 refine a_op ?_
    refine s_nil (r_false ?_)
    refine q_next ?_
    refine k_seq ?_
    refine k_region rfl ?_
    refine a_op ?_
    refine a_call [] false (Ce.New_good Γ 0 (.v (.slice none 0 0))) ?_
    refine a_callp [.r 4 1 0] [] [] false (Open_new Γ hE 0 0) ?_
    iterate 5 refine a_op ?_
    refine s_nil (r_false ?_)
    refine q_next ?_
    refine k_seq ?_
    refine k_seq ?_
    refine k_region rfl ?_
    refine a_op ?_
    refine a_call [] false (num_good Γ 0) ?_
    refine a_op ?_
    refine a_op ?_
    refine a_go ?_
    refine a_callgo [] false (num_good Γ 0) ?_
    refine a_go ?_
    refine a_op ?_
    refine a_op ?_
    refine a_go ?_
    refine a_bygo (spec_ptrNil false rfl rfl (by kernel_rfl)) ?_
    refine a_op ?_
    refine a_op ?_
    refine a_go ?_
    refine a_bygo (spec_ptrNil false rfl rfl (by kernel_rfl)) ?_
    refine a_op ?_
    refine s_nil (r_false ?_)
    refine q_next ?_
    refine a_false ?_
    refine k_skip ?_
    refine q_next ?_
    refine k_seq ?_
    refine k_region rfl ?_
    refine a_op ?_
    refine a_op ?_
    refine s_nil (r_false ?_)
    refine q_next ?_
    refine k_seq ?_
    refine k_seq ?_
    refine k_region rfl ?_
    refine a_op ?_
    refine s_nil (r_false ?_)
    refine q_next ?_
    refine k_block ?_
    refine k_loopF (fun sl L (q : Nat × ((Nat → List UInt8) × Nat × List UInt8) × ((Nat → List UInt8) × Nat × List UInt8)) => ⟨setAll (setBad sl [4, 6, 8, 12, 13, 14, 15, 16, 17, 18, 19, 20, 21, 22, 23, 24, 25, 26, 27, 28, 29, 30, 31, 32, 33, 34, 35, 36, 37, 38, 39, 40, 41, 42, 43, 44, 45, 46, 47, 48, 49, 50, 51, 52, 53, 54, 55, 56, 57, 58, 59, 60, 61, 62, 63, 64, 65, 66, 67, 68, 69, 70, 71, 72, 73, 74, 75, 76, 77, 78, 79, 80, 81, 82, 83, 84, 85, 86, 87, 88, 89, 90, 91, 92, 93, 94, 95, 96, 97]) [(11, .t (num q.1)), (9, .t (txt q.2.1.2.2)), (10, .t (txt q.2.2.2.2))], Go.Ot.look (putL (.r 3 2 0) (boxO 49 [.ptr (.r 3 1 0) 0, .t (num ((q.2.1.2.1 : Int))), .t (txt (q.2.1.2.2)), .t (bol (false))]) (putL (.r 3 1 0) (boxO 47 [.t (txt (q.2.1.1 0)), .t (txt (q.2.1.1 1)), .t (txt (q.2.1.1 2)), .t (txt (q.2.1.1 3)), .t (.v (.slice none 0 0)), .t (num (0)), .t (.v (.slice none 0 0)), .t (num (2 * (q.2.1.2.1 : Int))), .t (bol (false))]) (putL (.r 4 2 0) (boxO 49 [.ptr (.r 4 1 0) 0, .t (num ((q.2.2.2.1 : Int))), .t (txt (q.2.2.2.2)), .t (bol (false))]) (putL (.r 4 1 0) (boxO 47 [.t (txt (q.2.2.1 0)), .t (txt (q.2.2.1 1)), .t (txt (q.2.2.1 2)), .t (txt (q.2.2.1 3)), .t (.v (.slice none 0 0)), .t (num (0)), .t (.v (.slice none 0 0)), .t (num (2 * (q.2.2.2.1 : Int))), .t (bol (false))]) []))))⟩) (fun q => q.1 ≤ l.length ∧ q.2.1.2.1 ≤ q.1 ∧ q.2.2.2.1 ≤ q.1) (fun q => l.length - q.1) ((0, (fun _ => [], 0, []), (fun _ => [], 0, []))) (a_le ?_) ?_ ?_
    · refine le_of [(.r 3 2 0, .r 3 2 0), (.r 3 1 0, .r 3 1 0), (.r 4 2 0, .r 4 2 0), (.r 4 1 0, .r 4 1 0)] ?_ ?_ ?_ <;> simp [-List.map_set, -List.map_replicate, -List.reduceReplicate, -List.map_map, -List.map_drop, -List.map_take, num, bol, txt, w8, w16, w32, w64, lst, cls, rowO, boxO, List.take_of_length_le, Wr.cellsL_len, wA, Wr.k_mk, Wr.n_mk, Wr.s_mk, Wr.l_mk, Wr.cellsL, Wr.z_eq]
    · exact ⟨Nat.zero_le _, Nat.zero_le _, Nat.zero_le _⟩
    · rintro ⟨i, ⟨sa, ka, ta⟩, sb, kb, tb⟩ ⟨hi, hka, hkb⟩
      simp only at hi hka hkb
      refine a_st ?_
      refine k_seq ?_
      refine k_seq ?_
      refine k_region rfl ?_
      iterate 4 refine a_op ?_
      refine s_nil (r_false ?_)
      refine q_next ?_
      refine a_if (fun hc2 => ?_) (fun hc2 => ?_)
      · (try simp only [Bool.and_eq_true, Bool.or_eq_true, Bool.or_eq_false_iff, Bool.not_eq_true', Bool.not_eq_false', dec_t, dec_f, Bool.and_eq_false_imp, beq_iff_eq, beq_eq_false_iff_ne, ne_eq] at hc2)
        refine k_skip ?_
        refine q_next ?_
        refine k_seq ?_
        refine k_block ?_
        refine k_seq ?_
        refine k_seq ?_
        refine k_region rfl ?_
        iterate 4 refine a_op ?_
        obtain ⟨e, he⟩ : ∃ e, l.getD i [] = e := ⟨_, rfl⟩
        simp only [he]
        refine a_op ?_
        refine a_op ?_
        refine s_nil (r_false ?_)
        refine q_next ?_
        refine a_if (fun hc3 => ?_) (fun hc3 => ?_)
        · (try simp only [Bool.and_eq_true, Bool.or_eq_true, Bool.or_eq_false_iff, Bool.not_eq_true', Bool.not_eq_false', dec_t, dec_f, Bool.and_eq_false_imp, beq_iff_eq, beq_eq_false_iff_ne, ne_eq] at hc3)
          refine k_seq ?_
          refine k_region rfl ?_
          refine a_call [] false (awake_good Γ hE) ?_
          refine a_op ?_
          refine s_nil (r_false ?_)
          refine q_next ?_
          refine k_ret ?_
          refine q_seq_ret (q_block_ret (q_seq_ret (q_loopF_ret (q_block_ret (q_seq_ret ?_)))))
          refine ⟨.inr rfl, a_ret [] (by rw [results5]) ?_ ?_ ?_⟩ <;> simp [-List.map_set, -List.map_replicate, -List.reduceReplicate, -List.map_map, -List.map_drop, -List.map_take, num, bol, txt, w8, w16, w32, w64, lst, cls, rowO, boxO, List.take_of_length_le, Wr.cellsL_len, wA, Wr.k_mk, Wr.n_mk, Wr.s_mk, Wr.l_mk, Wr.cellsL, Wr.z_eq]
        · (try simp only [Bool.and_eq_true, Bool.or_eq_true, Bool.or_eq_false_iff, Bool.not_eq_true', Bool.not_eq_false', dec_t, dec_f, Bool.and_eq_false_imp, beq_iff_eq, beq_eq_false_iff_ne, ne_eq] at hc3)
          refine k_skip ?_
          refine q_next ?_
          refine k_seq ?_
          refine k_seq ?_
          refine k_region rfl ?_
          iterate 4 refine a_op ?_
          refine s_nil (r_false ?_)
          refine q_next ?_
          refine a_if (fun hc4 => ?_) (fun hc4 => ?_)
          · (try simp only [Bool.and_eq_true, Bool.or_eq_true, Bool.or_eq_false_iff, Bool.not_eq_true', Bool.not_eq_false', dec_t, dec_f, Bool.and_eq_false_imp, beq_iff_eq, beq_eq_false_iff_ne, ne_eq] at hc4)
            refine k_seq ?_
            refine k_region rfl ?_
            obtain ⟨m, hm⟩ : ∃ m : Nat, ((ka : Int) + 1) % 2 = (m : Int) := ⟨(ka + 1) % 2, by omega⟩
            · skip
              iterate 5 refine a_op ?_
              simp only [he]
              refine a_callp [.r 3 2 0, .r 3 1 0] [] [] false (keep_ok Γ sa 0 (2 * (ka : Int)) ka (by omega) m hm e (by omega) ta (by omega) (by omega) (by omega)) ?_
              refine s_nil (r_false ?_)
              refine q_next ?_
              refine k_region rfl ?_
              iterate 4 refine a_op ?_
              simp only [he]
              refine a_op ?_
              refine s_nil (r_false ?_)
              refine q_next ?_
              refine k_seq ?_
              refine k_region rfl ?_
              refine a_op ?_
              refine a_callp [.r 3 2 0, .r 3 1 0] [] [] false (last_good Γ (Ce.upd sa m (enc ((ka : Int) + 1) e)) 0 (2 * (ka : Int) + 2) false (.t (.v (.slice none 0 0))) ((ka : Int) + 1) e false) ?_
              iterate 3 refine a_op ?_
              refine a_go ?_
              refine a_callpgo [.r 4 2 0, .r 4 1 0] [] [] false (last_good Γ sb 0 (2 * (kb : Int)) false (.t (.v (.slice none 0 0))) kb tb false) ?_
              refine a_go ?_
              refine a_go ?_
              refine a_op ?_
              refine s_nil (r_false ?_)
              refine q_next ?_
              refine a_false ?_
              refine k_skip ?_
              refine q_block (q_next ?_)
              refine k_region rfl ?_
              iterate 3 refine a_op ?_
              refine s_nil (r_false ?_)
              refine q_loopF ((i + 1, ((Ce.upd sa m (enc ((ka : Int) + 1) e)), ka + 1, e), sb, kb, tb)) (a_le ?_) ?_ ?_
              · refine le_of [(.r 3 2 0, .r 3 2 0), (.r 3 1 0, .r 3 1 0), (.r 4 2 0, .r 4 2 0), (.r 4 1 0, .r 4 1 0)] ?_ ?_ ?_ <;> simp [-List.map_set, -List.map_replicate, -List.reduceReplicate, -List.map_map, -List.map_drop, -List.map_take, num, bol, txt, w8, w16, w32, w64, lst, cls, rowO, boxO, List.take_of_length_le, Wr.cellsL_len, wA, Wr.k_mk, Wr.n_mk, Wr.s_mk, Wr.l_mk, Wr.cellsL, Wr.z_eq, show ((2 : Int) * ((ka : Int) + 1)) = 2 * (ka : Int) + 2 from by omega]
              · refine ⟨?_, ?_, ?_⟩ <;> simp only [] <;> omega
              · simp only []; omega
          · (try simp only [Bool.and_eq_true, Bool.or_eq_true, Bool.or_eq_false_iff, Bool.not_eq_true', Bool.not_eq_false', dec_t, dec_f, Bool.and_eq_false_imp, beq_iff_eq, beq_eq_false_iff_ne, ne_eq] at hc4)
            refine k_seq ?_
            refine k_region rfl ?_
            obtain ⟨m, hm⟩ : ∃ m : Nat, ((kb : Int) + 1) % 2 = (m : Int) := ⟨(kb + 1) % 2, by omega⟩
            · skip
              iterate 5 refine a_op ?_
              simp only [he]
              refine a_callp [.r 4 2 0, .r 4 1 0] [] [] false (keep_ok Γ sb 0 (2 * (kb : Int)) kb (by omega) m hm e (by omega) tb (by omega) (by omega) (by omega)) ?_
              refine s_nil (r_false ?_)
              refine q_next ?_
              refine k_region rfl ?_
              iterate 4 refine a_op ?_
              simp only [he]
              refine a_op ?_
              refine s_nil (r_false ?_)
              refine q_next ?_
              refine k_seq ?_
              refine k_region rfl ?_
              refine a_op ?_
              refine a_callp [.r 3 2 0, .r 3 1 0] [] [] false (last_good Γ sa 0 (2 * (ka : Int)) false (.t (.v (.slice none 0 0))) ka ta false) ?_
              iterate 3 refine a_op ?_
              refine a_go ?_
              refine a_callpgo [.r 4 2 0, .r 4 1 0] [] [] false (last_good Γ (Ce.upd sb m (enc ((kb : Int) + 1) e)) 0 (2 * (kb : Int) + 2) false (.t (.v (.slice none 0 0))) ((kb : Int) + 1) e false) ?_
              refine a_go ?_
              refine a_go ?_
              refine a_op ?_
              refine s_nil (r_false ?_)
              refine q_next ?_
              refine a_false ?_
              refine k_skip ?_
              refine q_block (q_next ?_)
              refine k_region rfl ?_
              iterate 3 refine a_op ?_
              refine s_nil (r_false ?_)
              refine q_loopF ((i + 1, (sa, ka, ta), (Ce.upd sb m (enc ((kb : Int) + 1) e)), kb + 1, e)) (a_le ?_) ?_ ?_
              · refine le_of [(.r 3 2 0, .r 3 2 0), (.r 3 1 0, .r 3 1 0), (.r 4 2 0, .r 4 2 0), (.r 4 1 0, .r 4 1 0)] ?_ ?_ ?_ <;> simp [-List.map_set, -List.map_replicate, -List.reduceReplicate, -List.map_map, -List.map_drop, -List.map_take, num, bol, txt, w8, w16, w32, w64, lst, cls, rowO, boxO, List.take_of_length_le, Wr.cellsL_len, wA, Wr.k_mk, Wr.n_mk, Wr.s_mk, Wr.l_mk, Wr.cellsL, Wr.z_eq, show ((2 : Int) * ((kb : Int) + 1)) = 2 * (kb : Int) + 2 from by omega]
              · refine ⟨?_, ?_, ?_⟩ <;> simp only [] <;> omega
              · simp only []; omega
      · (try simp only [Bool.and_eq_true, Bool.or_eq_true, Bool.or_eq_false_iff, Bool.not_eq_true', Bool.not_eq_false', dec_t, dec_f, Bool.and_eq_false_imp, beq_iff_eq, beq_eq_false_iff_ne, ne_eq] at hc2)
        refine k_exit ?_
        refine q_seq_exit (q_loopF_exit (q_block_exit (q_next ?_)))
        refine k_seq ?_
        refine k_region rfl ?_
        refine a_call [] false (awake_good Γ hE) ?_
        refine a_op ?_
        refine s_nil (r_false ?_)
        refine q_next ?_
        refine k_ret ?_
        refine ⟨.inr rfl, a_ret [] (by rw [results5]) ?_ ?_ ?_⟩ <;> simp [-List.map_set, -List.map_replicate, -List.reduceReplicate, -List.map_map, -List.map_drop, -List.map_take, num, bol, txt, w8, w16, w32, w64, lst, cls, rowO, boxO, List.take_of_length_le, Wr.cellsL_len, wA, Wr.k_mk, Wr.n_mk, Wr.s_mk, Wr.l_mk, Wr.cellsL, Wr.z_eq]

end Go.Proofs.Tryd
