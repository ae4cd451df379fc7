/- Contracts of this program's functions. -/
import Derived.Test.YtemehffhagfpbaaGreatDoorSE
set_option maxHeartbeats 4000000
set_option maxRecDepth 100000
set_option linter.unusedVariables false
set_option linter.unusedSimpArgs false
namespace Go.Proofs.Tryz
open Go Go.Ot
attribute [local irreducible] wpK wpS seqK blockK loopF regK meetK OpSpec Le be64 sha padB

theorem eight_sh (j : Nat) : ((56 : Int) - 8 * (j : Int)).toNat = ((8 : Int) * (7 - (j : Int))).toNat := by omega
/-- A number as eight bytes. -/
def eight (n : Int) : List UInt8 := be64 (UInt64.ofInt n) 8
theorem eight_len (n : Int) : (eight n).length = 8 := be64_len _ _
attribute [push_cast] eight_len

theorem left_good (Γ : Gl) (x : UInt32) (n : Nat) (hn : n ≤ 32) : Go.Ot.Good Γ prog 45 [.t (w32 x), .t (un n)] [] (.t (w32 (lft x n))) [] [] := by
 refine a_body F.mix func45 (by rfl) ntmps45 ?_
 refine k_seq ?_
 refine k_region rfl ?_
 refine a_op ?_
 refine s_nil (r_false ?_)
 refine q_next ?_
 refine k_seq ?_
 refine k_region rfl ?_
 iterate 9 refine a_op ?_
 refine s_nil (r_false ?_)
 refine q_next ?_
 refine k_ret ?_
 refine ⟨.inr rfl, a_ret [] (by rw [results45]) ?_ ?_ ?_⟩ <;> simp [-List.map_set, -List.map_replicate, -List.reduceReplicate, -List.map_map, -List.map_drop, -List.map_take, num, bol, txt, w8, w16, w32, w64, lst, cls, rowO, boxO, List.take_of_length_le, un, lft, show ((32 : Int) - (n : Int)).toNat = 32 - n from by omega]

theorem turns_good (Γ : Gl) (x : UInt32) (a b c : Nat) (ha : a ≤ 32) (hb : b ≤ 32) (hc : c ≤ 32) : Go.Ot.Good Γ prog 46 [.t (w32 x), .t (un a), .t (un b), .t (un c)] [] (.t (w32 (rots3 x a b c))) [] [] := by
 refine a_body F.mix func46 (by rfl) ntmps46 ?_
 refine k_seq ?_
 refine k_region rfl ?_
 refine a_op ?_
 refine s_nil (r_false ?_)
 refine q_next ?_
 refine k_seq ?_
 refine k_region rfl ?_
 iterate 3 refine a_op ?_
 refine a_call [] false (left_good Γ x (32 - a) (by omega)) ?_
 iterate 3 refine a_op ?_
 refine a_call [] false (left_good Γ x (32 - b) (by omega)) ?_
 iterate 4 refine a_op ?_
 refine a_call [] false (left_good Γ x (32 - c) (by omega)) ?_
 refine a_op ?_
 refine a_op ?_
 refine s_nil (r_false ?_)
 refine q_next ?_
 refine k_ret ?_
 refine ⟨.inr rfl, a_ret [] (by rw [results46]) ?_ ?_ ?_⟩ <;> simp [-List.map_set, -List.map_replicate, -List.reduceReplicate, -List.map_map, -List.map_drop, -List.map_take, num, bol, txt, w8, w16, w32, w64, lst, cls, rowO, boxO, List.take_of_length_le, un, rots3, lft_rotr x a ha, lft_rotr x b hb, lft_rotr x c hc]

theorem constants_good (Γ : Gl)  : Go.Ot.Good Γ prog 44 [] [] (.msl (.n 0) 0 64 1) [] [rowO 81 w32 K64] := by
 refine a_body F.mix func44 (by rfl) ntmps44 ?_
 refine k_seq ?_
 refine k_region rfl ?_
 refine a_op ?_
 refine s_nil (r_false ?_)
 refine q_next ?_
 refine k_seq ?_
 refine k_region rfl ?_
 refine a_op (r := { val := .msl (.r 1 0 0) 0 64 1, F := [.r 1 0 0], upd := [(.r 1 0 0, some ⟨cls w32 K64, 81, true, true⟩)] }) (c := prog.underlying 82 = some (.slice (prog.elem 82)) ∧ elemOk prog (prog.elem 82) = true ∧ [D.t (.v (.int .u32 0))].length = prog.cellsOf (prog.elem 82) ∧ Go.Ot.look [] (.r 1 0 0) = none ∧ 64 * prog.cellsOf (prog.elem 82) ≤ 16777216 ∧ 64 ≤ maxLen) (hs := by kernel_rfl) ?_
 refine a_op ?_
 refine s_nil (r_false ?_)
 refine q_next ?_
 refine k_ret ?_
 refine ⟨.inr rfl, a_ret [(.n 0, .r 1 0 0)] (by rw [results44]) ?_ ?_ ?_⟩ <;> simp [-List.map_set, -List.map_replicate, -List.reduceReplicate, -List.map_map, -List.map_drop, -List.map_take, num, bol, txt, w8, w16, w32, w64, lst, cls, rowO, boxO, List.take_of_length_le]

theorem eight_good (Γ : Gl) (n : Int) : Go.Ot.Good Γ prog 43 [.t (num n)] [] (.t (txt (eight n))) [] [] := by
 refine a_body F.mix func43 (by rfl) ntmps43 ?_
 refine k_seq ?_
 refine k_region rfl ?_
 refine a_op ?_
 refine s_nil (r_false ?_)
 refine q_next ?_
 refine k_seq ?_
 refine k_region rfl ?_
 refine a_op ?_
 refine a_cv64 ?_
 refine a_op ?_
 refine s_nil (r_false ?_)
 refine q_next ?_
 refine k_seq ?_
 refine k_region rfl ?_
 refine a_op ?_
 refine s_nil (r_false ?_)
 refine q_next ?_
 refine k_seq ?_
 refine k_seq ?_
 refine k_region rfl ?_
 refine a_op ?_
 refine s_nil (r_false ?_)
 refine q_next ?_
 refine k_block ?_
 refine k_loopF (fun sl L (j : Nat) => ⟨setAll (setBad sl [0, 6, 7, 8, 9, 10, 11, 12, 13, 14, 15, 16, 17, 18, 19, 20, 21]) [(4, .msl (.n 3) 0 j 1), (5, .t (num j))], Go.Ot.look (putL (.n 3) (rowO 5 w8 (be64 (UInt64.ofInt n) j)) L)⟩) (fun j => j ≤ 8) (fun j => 8 - j) (0) (a_le ?_) ?_ ?_
 ·refine le_of [] ?_ ?_ ?_ <;> simp [-List.map_set, -List.map_replicate, -List.reduceReplicate, -List.map_map, -List.map_drop, -List.map_take, num, bol, txt, w8, w16, w32, w64, lst, cls, rowO, boxO, List.take_of_length_le, be64]
 ·(first | omega | simp)
 ·intro j hj
  refine a_st ?_
  refine k_seq ?_
  refine k_seq ?_
  refine k_region rfl ?_
  refine a_op ?_
  refine a_op ?_
  refine s_nil (r_false ?_)
  refine q_next ?_
  refine a_if (fun hc0 => ?_) (fun hc0 => ?_)
  ·(try simp only [Bool.and_eq_true, Bool.or_eq_true, Bool.or_eq_false_iff, Bool.not_eq_true', Bool.not_eq_false', dec_t, dec_f, Bool.and_eq_false_imp, beq_iff_eq, beq_eq_false_iff_ne, ne_eq] at hc0)
   refine k_skip ?_
   refine q_next ?_
   refine k_seq ?_
   refine k_block ?_
   refine k_region rfl ?_
   iterate 11 refine a_op ?_
   refine s_nil (r_false ?_)
   refine q_block (q_next ?_)
   refine k_region rfl ?_
   iterate 3 refine a_op ?_
   refine s_nil (r_false ?_)
   refine q_loopF (j + 1) (a_le ?_) ?_ ?_
   ·refine le_same ?_ ?_ ?_ <;> simp [-List.map_set, -List.map_replicate, -List.reduceReplicate, -List.map_map, -List.map_drop, -List.map_take, num, bol, txt, w8, w16, w32, w64, lst, cls, rowO, boxO, List.take_of_length_le, be64, eight_sh]
   ·(first | omega | (simp_all <;> omega))
   ·(first | omega | (simp only []; omega))
  ·(try simp only [Bool.and_eq_true, Bool.or_eq_true, Bool.or_eq_false_iff, Bool.not_eq_true', Bool.not_eq_false', dec_t, dec_f, Bool.and_eq_false_imp, beq_iff_eq, beq_eq_false_iff_ne, ne_eq] at hc0)
   refine k_exit ?_
   refine q_seq_exit (q_loopF_exit (q_block_exit (q_next ?_)))
   refine k_seq ?_
   refine k_region rfl ?_
   obtain rfl : j = 8 := by omega
   refine a_op ?_
   first | refine a_text ?_ | refine a_texts ?_
   refine a_op ?_
   refine s_nil (r_false ?_)
   refine q_next ?_
   refine k_ret ?_
   refine ⟨.inr rfl, a_ret [] (by rw [results43]) ?_ ?_ ?_⟩ <;> simp [-List.map_set, -List.map_replicate, -List.reduceReplicate, -List.map_map, -List.map_drop, -List.map_take, num, bol, txt, w8, w16, w32, w64, lst, cls, rowO, boxO, List.take_of_length_le, eight]

end Go.Proofs.Tryz
