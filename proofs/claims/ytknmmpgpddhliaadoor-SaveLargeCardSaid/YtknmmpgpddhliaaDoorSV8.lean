/- Contracts of this program's functions. -/
import Derived.Test.YtknmmpgpddhliaaDoorSV5
import Derived.Test.YtknmmpgpddhliaaDoorSV8P
set_option maxHeartbeats 4000000
set_option maxRecDepth 100000
set_option linter.unusedVariables false
set_option linter.unusedSimpArgs false
namespace Go.Proofs.Tryd
open Go Go.Ot Ce
attribute [local irreducible] wpK wpS seqK blockK loopF regK meetK OpSpec Le rdS lpW rdW got mayS mayW putS putW nb u64 PutW nowF sideF opn enc Kp
theorem large_good (Γ : Gl) (hE : EG Γ) (n : UInt8) (s : List UInt8) (hs : s.length ≤ 9223372036854775807) : Go.Ot.Good Γ prog 4 [.t (w8 n), .t (txt s)] [] (.t (bol true)) [] [] := by
  refine a_body F.mix func4 (by rfl) ntmps4 ?_
  refine k_seq ?_
  refine k_region rfl ?_
  refine a_op ?_
  refine s_nil (r_false ?_)
  refine q_next ?_
  refine k_seq ?_
  refine k_seq ?_
  refine k_region rfl ?_
  have hn8 := UInt8.toNat_lt n
  have h3 : 200 < s.length ∨ (s.length ≤ 200 ∧ 0 < (n.toNat : Int) % 16) ∨ (s.length ≤ 200 ∧ (n.toNat : Int) % 16 = 0) := by omega
  rcases h3 with hx | ⟨hx, hy⟩ | ⟨hx, hy⟩
  · skip
    iterate 4 refine a_op ?_
    refine a_no ?_
    refine a_no ?_
    refine a_no ?_
    refine a_op ?_
    refine s_nil (r_false ?_)
    refine q_next ?_
    refine a_true ?_
    refine k_seq ?_
    refine k_region rfl ?_
    refine a_call [] false (awake_good Γ hE) ?_
    refine a_op ?_
    refine s_nil (r_false ?_)
    refine q_next ?_
    refine k_ret ?_
    refine q_seq_ret ?_
    refine ⟨.inr rfl, a_ret [] (by rw [results4]) ?_ ?_ ?_⟩ <;> simp [-List.map_set, -List.map_replicate, -List.reduceReplicate, -List.map_map, -List.map_drop, -List.map_take, num, bol, txt, w8, w16, w32, w64, lst, cls, rowO, boxO, List.take_of_length_le, Wr.cellsL_len, wA, Wr.k_mk, Wr.n_mk, Wr.s_mk, Wr.l_mk, Wr.cellsL, Wr.z_eq]
  · skip
    iterate 4 refine a_op ?_
    refine a_go ?_
    refine a_go ?_
    refine a_go ?_
    refine a_op ?_
    refine s_nil (r_false ?_)
    refine q_next ?_
    refine a_true ?_
    refine k_seq ?_
    refine k_region rfl ?_
    refine a_call [] false (awake_good Γ hE) ?_
    refine a_op ?_
    refine s_nil (r_false ?_)
    refine q_next ?_
    refine k_ret ?_
    refine q_seq_ret ?_
    refine ⟨.inr rfl, a_ret [] (by rw [results4]) ?_ ?_ ?_⟩ <;> simp [-List.map_set, -List.map_replicate, -List.reduceReplicate, -List.map_map, -List.map_drop, -List.map_take, num, bol, txt, w8, w16, w32, w64, lst, cls, rowO, boxO, List.take_of_length_le, Wr.cellsL_len, wA, Wr.k_mk, Wr.n_mk, Wr.s_mk, Wr.l_mk, Wr.cellsL, Wr.z_eq]
  · skip
    iterate 4 refine a_op ?_
    refine a_go ?_
    refine a_go ?_
    refine a_go ?_
    refine a_op ?_
    refine s_nil (r_false ?_)
    refine q_next ?_
    refine a_false ?_
    refine k_skip ?_
    refine q_next ?_
    refine k_seq ?_
    refine k_region rfl ?_
    refine a_op ?_
    refine a_call [] false (Ce.New_good Γ 0 (.v (.slice none 0 0))) ?_
    refine a_op ?_
    refine s_nil (r_false ?_)
    refine q_next ?_
    refine k_seq ?_
    refine k_region rfl ?_
    refine a_op ?_
    refine a_callp [.r 3 1 0] [] [] false (Open_new Γ hE 0 0) ?_
    iterate 5 refine a_op ?_
    refine s_nil (r_false ?_)
    refine q_next ?_
    refine k_seq ?_
    refine k_seq ?_
    refine k_region rfl ?_
    refine a_op ?_
    refine a_call [] false (num_good Γ 0) ?_
    refine a_op ?_
    refine a_op ?_
    refine a_go ?_
    refine a_bygo (spec_ptrNil false rfl rfl (by kernel_rfl)) ?_
    refine a_op ?_
    refine a_op ?_
    refine a_go ?_
    refine a_go ?_
    refine a_callpgo [.r 4 1 0, .r 3 1 0] [] [] false (keep_ok Γ (fun _ => []) 0 0 0 (by omega) 1 (by decide) s (by omega) [] (by omega) (by omega) (by omega)) ?_
    refine a_callgo [] false (num_good Γ 0) ?_
    refine a_go ?_
    refine a_op ?_
    refine s_nil (r_false ?_)
    refine q_next ?_
    refine a_false ?_
    refine k_skip ?_
    refine q_next ?_
    refine k_seq ?_
    refine k_region rfl ?_
    obtain ⟨N, hN, hN1, hN2⟩ : ∃ N : Nat, (16777213 : Int) + (n.toNat : Int) % 7 = (N : Int) ∧ 16777213 ≤ N ∧ N ≤ 16777219 := ⟨16777213 + n.toNat % 7, by omega, by omega, by omega⟩
    have hrl : (List.replicate N (0 : UInt8)).length = N := List.length_replicate
    iterate 3 refine a_op ?_
    refine a_op (hs := by (simp (disch := first | omega | (simp only [List.length_drop, List.length_take, List.length_map, List.length_append, List.length_cons, List.length_nil, List.length_replicate, List.length_set] <;> omega) | (simp only [push_cast] <;> omega) | fail) only [push_cast, reduceCtorEq, Nat.reduceAdd, Nat.reduceSub, Nat.reduceMul, Nat.reduceEqDiff, Nat.reduceLT, Nat.reduceLeDiff, Nat.reduceMod, Nat.reduceDiv, Int.reduceLE, Int.reduceLT, Int.reduceEq, Int.reduceToNat, Int.reduceAdd, Int.reduceSub, Int.reduceMul, Int.reduceNeg, hN] <;> rfl)) ?_
    refine a_op ?_
    obtain ⟨z, hz, hzl⟩ : ∃ z : List UInt8, List.replicate N (0 : UInt8) = z ∧ z.length = N := ⟨_, rfl, List.length_replicate⟩
    simp only [hz]
    clear hrl hz
    refine a_op ?_
    refine s_nil (r_false ?_)
    refine q_next ?_
    refine k_seq ?_
    refine k_region rfl ?_
    rcases Nat.lt_or_ge 16777216 N with hg | hg
    · skip
      refine a_op ?_
      refine a_op ?_
      first | refine a_text ?_ | refine a_texts ?_
      refine a_callp [.r 4 1 0, .r 3 1 0] [] [] false (keep_large Γ (Ce.upd (fun _ => []) 1 (enc (0 + 1) s)) 0 2 false false 1 s z (by omega)) ?_
      refine a_op ?_
      refine s_nil (r_false ?_)
      refine q_next ?_
      refine k_seq ?_
      refine k_region rfl ?_
      refine a_op ?_
      refine a_callp [.r 3 1 0] [] [] false (Open_kp Γ hE (Ce.upd (fun _ => []) 1 (enc (0 + 1) s)) 0 2 1 s (Kp_one s) (by omega)) ?_
      iterate 5 refine a_op ?_
      refine s_nil (r_false ?_)
      refine q_next ?_
      refine k_seq ?_
      refine k_seq ?_
      refine k_region rfl ?_
      refine a_op ?_
      refine a_call [] false (num_good Γ 0) ?_
      refine a_op ?_
      refine a_op ?_
      refine a_go ?_
      refine a_bygo (spec_ptrNil false rfl rfl (by kernel_rfl)) ?_
      refine a_op ?_
      refine s_nil (r_false ?_)
      refine q_next ?_
      refine a_false ?_
      refine k_skip ?_
      refine q_next ?_
      refine k_seq ?_
      refine k_seq ?_
      refine k_region rfl ?_
      iterate 3 refine a_op ?_
      refine s_nil (r_false ?_)
      refine q_next ?_
      refine a_true ?_
      refine k_seq ?_
      refine k_region rfl ?_
      refine a_op ?_
      refine a_call [] false (num_good Γ 4) ?_
      refine a_op ?_
      refine a_op ?_
      refine a_go ?_
      refine a_callpgo [.r 4 1 0, .r 3 1 0] [] [] false (last_good Γ (Ce.upd (fun _ => []) 1 (enc (0 + 1) s)) 0 2 false (.t (.v (.slice none 0 0))) 1 s false) ?_
      refine a_go ?_
      refine a_go ?_
      refine a_op ?_
      refine a_op ?_
      refine a_go ?_
      refine a_callpgo [.r 9 1 0, .r 3 1 0] [] [] false (last_good Γ (Ce.upd (fun _ => []) 1 (enc (0 + 1) s)) 0 2 false (.t (.v (.slice none 0 0))) 1 s false) ?_
      refine a_go ?_
      refine a_go ?_
      refine a_op ?_
      refine a_op ?_
      refine a_callgo [] false (awake_good Γ hE) ?_
      refine a_op ?_
      refine a_op ?_
      refine s_nil (r_false ?_)
      refine q_next ?_
      refine k_ret ?_
      refine q_seq_ret ?_
      refine ⟨.inr rfl, a_ret [] (by rw [results4]) ?_ ?_ ?_⟩ <;> simp [-List.map_set, -List.map_replicate, -List.reduceReplicate, -List.map_map, -List.map_drop, -List.map_take, num, bol, txt, w8, w16, w32, w64, lst, cls, rowO, boxO, List.take_of_length_le, Wr.cellsL_len, wA, Wr.k_mk, Wr.n_mk, Wr.s_mk, Wr.l_mk, Wr.cellsL, Wr.z_eq]
    · skip
      refine a_op ?_
      refine a_op ?_
      first | refine a_text ?_ | refine a_texts ?_
      refine a_callp [.r 4 1 0, .r 3 1 0] [] [] false (keep_ok Γ (Ce.upd (fun _ => []) 1 (enc (0 + 1) s)) 0 2 1 (by omega) 0 (by decide) z (by omega) s (by omega) (by omega) (by omega)) ?_
      refine a_op ?_
      refine s_nil (r_false ?_)
      refine q_next ?_
      refine k_seq ?_
      refine k_region rfl ?_
      refine a_op ?_
      refine a_callp [.r 3 1 0] [] [] false (Open_kp Γ hE (Ce.upd (Ce.upd (fun _ => []) 1 (enc (0 + 1) s)) 0 (enc (1 + 1) z)) 0 4 2 z (Kp_two s z) (by omega)) ?_
      iterate 5 refine a_op ?_
      refine s_nil (r_false ?_)
      refine q_next ?_
      refine k_seq ?_
      refine k_seq ?_
      refine k_region rfl ?_
      refine a_op ?_
      refine a_call [] false (num_good Γ 0) ?_
      refine a_op ?_
      refine a_op ?_
      refine a_go ?_
      refine a_bygo (spec_ptrNil false rfl rfl (by kernel_rfl)) ?_
      refine a_op ?_
      refine s_nil (r_false ?_)
      refine q_next ?_
      refine a_false ?_
      refine k_skip ?_
      refine q_next ?_
      refine k_seq ?_
      refine k_seq ?_
      refine k_region rfl ?_
      iterate 3 refine a_op ?_
      refine s_nil (r_false ?_)
      refine q_next ?_
      refine a_false ?_
      refine k_skip ?_
      refine q_next ?_
      refine k_seq ?_
      refine k_region rfl ?_
      refine a_opd ?_
      refine a_calld [] false (num_good Γ 0) ?_
      refine a_opd ?_
      refine a_opd ?_
      refine a_god ?_
      refine a_callpgod [.r 4 1 0, .r 3 1 0] [] [] false (last_good Γ (Ce.upd (Ce.upd (fun _ => []) 1 (enc (0 + 1) s)) 0 (enc (1 + 1) z)) 0 4 false (.t (.v (.slice none 0 0))) 2 z false) ?_
      refine a_god ?_
      refine a_god ?_
      refine a_god ?_
      refine a_god ?_
      refine a_opd ?_
      refine a_opd ?_
      refine a_god ?_
      refine a_callpgod [.r 9 1 0, .r 3 1 0] [] [] false (last_good Γ (Ce.upd (Ce.upd (fun _ => []) 1 (enc (0 + 1) s)) 0 (enc (1 + 1) z)) 0 4 false (.t (.v (.slice none 0 0))) 2 z false) ?_
      refine a_god ?_
      first | refine a_textgod ?_ | refine a_textsgod ?_
      refine a_god ?_
      refine a_opd ?_
      refine a_opd ?_
      refine a_callgod [] false (awake_good Γ hE) ?_
      refine a_opd ?_
      refine a_opd ?_
      refine s_nil (r_true (by kernel_rfl) ?_)
      refine q_next ?_
      refine k_ret ?_
      refine ⟨.inr rfl, a_ret [] (by rw [results4]) ?_ ?_ ?_⟩ <;> simp [-List.map_set, -List.map_replicate, -List.reduceReplicate, -List.map_map, -List.map_drop, -List.map_take, num, bol, txt, w8, w16, w32, w64, lst, cls, rowO, boxO, List.take_of_length_le, Wr.cellsL_len, wA, Wr.k_mk, Wr.n_mk, Wr.s_mk, Wr.l_mk, Wr.cellsL, Wr.z_eq]

end Go.Proofs.Tryd
