/- Contracts of this program's functions. -/
import Derived.Test.YtnliecfmadifkaaDoorSX0
set_option maxHeartbeats 4000000
set_option maxRecDepth 100000
set_option linter.unusedVariables false
set_option linter.unusedSimpArgs false
namespace Go.Proofs.Tryd
open Go Go.Ot
attribute [local irreducible] wpK wpS seqK blockK loopF regK meetK OpSpec Le nowF fallF
theorem rNew_good (Γ : Gl) (c : Int) (kp : T) : Go.Ot.Good Γ prog 15 [.agg [.t (num c), .t kp]] [] (.ptr (.n 0) 0) [] [boxO 52 [.t (txt ((fun _ : Nat => ([] : List UInt8)) 0)), .t (txt ((fun _ : Nat => ([] : List UInt8)) 1)), .t (txt ((fun _ : Nat => ([] : List UInt8)) 2)), .t (txt ((fun _ : Nat => ([] : List UInt8)) 3)), .t (.v (.slice none 0 0)), .t (num (max 0 c)), .t (bol (false))]] := by
  refine a_body F.mix func15 (by rfl) ntmps15 ?_
  refine k_seq ?_
  refine k_region rfl ?_
  refine a_op ?_
  refine a_op ?_
  refine s_nil (r_false ?_)
  refine q_next ?_
  refine k_seq ?_
  refine k_region rfl ?_
  iterate 6 refine a_op ?_
  refine s_nil (r_false ?_)
  refine q_next ?_
  refine k_ret ?_
  refine ⟨.inr rfl, a_ret [(.n 0, .r 1 4 0)] (by rw [results15]) ?_ ?_ ?_⟩ <;> simp [-List.map_set, -List.map_replicate, -List.reduceReplicate, -List.map_map, -List.map_drop, -List.map_take, num, bol, txt, w8, w16, w32, w64, lst, cls, rowO, boxO, List.take_of_length_le]

theorem cnt_okN (Γ : Gl) (s : St4) (lf : Int) (h0 : 0 ≤ lf) (h1 : lf ≤ 9223372036854775807) (h : lf ≠ 1) : Go.Ot.Good Γ prog 29 [.ptr (.p 0) 0] [boxO 52 [.t (txt (s 0)), .t (txt (s 1)), .t (txt (s 2)), .t (txt (s 3)), .t (.v (.slice none 0 0)), .t (num (lf)), .t (bol (false))]] (.t (bol true)) [some (boxO 52 [.t (txt (s 0)), .t (txt (s 1)), .t (txt (s 2)), .t (txt (s 3)), .t (.v (.slice none 0 0)), .t (num (max 0 (lf - 1))), .t (bol (false))])] [] := by
  refine a_body F.mix func29 (by rfl) ntmps29 ?_
  refine k_seq ?_
  refine k_region rfl ?_
  refine a_op ?_
  refine s_nil (r_false ?_)
  refine q_next ?_
  refine k_seq ?_
  refine k_seq ?_
  refine k_region rfl ?_
  iterate 5 refine a_op ?_
  refine s_nil (r_false ?_)
  refine q_next ?_
  refine a_if (fun hc0 => ?_) (fun hc0 => ?_)
  · (try simp only [Bool.and_eq_true, Bool.or_eq_true, Bool.or_eq_false_iff, Bool.not_eq_true', Bool.not_eq_false', dec_t, dec_f, Bool.and_eq_false_imp, beq_iff_eq, beq_eq_false_iff_ne, ne_eq] at hc0)
    have e : max 0 (lf - 1) = lf - 1 := by omega
    refine k_seq ?_
    refine k_region rfl ?_
    iterate 8 refine a_op ?_
    refine s_nil (r_false ?_)
    refine q_next ?_
    refine k_region rfl ?_
    iterate 9 refine a_op ?_
    refine s_nil (r_false ?_)
    refine q_next ?_
    refine k_seq ?_
    refine k_region rfl ?_
    iterate 6 refine a_op ?_
    refine s_nil (r_false ?_)
    refine q_next ?_
    refine k_ret ?_
    refine ⟨.inr rfl, a_ret [(.p 0, .p 0)] (by rw [results29]) ?_ ?_ ?_⟩ <;> simp [-List.map_set, -List.map_replicate, -List.reduceReplicate, -List.map_map, -List.map_drop, -List.map_take, num, bol, txt, w8, w16, w32, w64, lst, cls, rowO, boxO, List.take_of_length_le, e]
  · (try simp only [Bool.and_eq_true, Bool.or_eq_true, Bool.or_eq_false_iff, Bool.not_eq_true', Bool.not_eq_false', dec_t, dec_f, Bool.and_eq_false_imp, beq_iff_eq, beq_eq_false_iff_ne, ne_eq] at hc0)
    have e : max 0 (lf - 1) = lf := by omega
    refine k_skip ?_
    refine q_next ?_
    refine k_seq ?_
    refine k_region rfl ?_
    iterate 6 refine a_op ?_
    refine s_nil (r_false ?_)
    refine q_next ?_
    refine k_ret ?_
    refine ⟨.inr rfl, a_ret [(.p 0, .p 0)] (by rw [results29]) ?_ ?_ ?_⟩ <;> simp [-List.map_set, -List.map_replicate, -List.reduceReplicate, -List.map_map, -List.map_drop, -List.map_take, num, bol, txt, w8, w16, w32, w64, lst, cls, rowO, boxO, List.take_of_length_le, e]

theorem cnt_lastN (Γ : Gl) (s : St4)  : Go.Ot.Good Γ prog 29 [.ptr (.p 0) 0] [boxO 52 [.t (txt (s 0)), .t (txt (s 1)), .t (txt (s 2)), .t (txt (s 3)), .t (.v (.slice none 0 0)), .t (num (1)), .t (bol (false))]] (.t (bol false)) [some (boxO 52 [.t (txt (s 0)), .t (txt (s 1)), .t (txt (s 2)), .t (txt (s 3)), .t (.v (.slice none 0 0)), .t (num (0)), .t (bol (true))])] [] := by
  refine a_body F.mix func29 (by rfl) ntmps29 ?_
  refine k_seq ?_
  refine k_region rfl ?_
  refine a_op ?_
  refine s_nil (r_false ?_)
  refine q_next ?_
  refine k_seq ?_
  refine k_seq ?_
  refine k_region rfl ?_
  iterate 5 refine a_op ?_
  refine s_nil (r_false ?_)
  refine q_next ?_
  refine a_true ?_
  refine k_seq ?_
  refine k_region rfl ?_
  iterate 8 refine a_op ?_
  refine s_nil (r_false ?_)
  refine q_next ?_
  refine k_region rfl ?_
  iterate 9 refine a_op ?_
  refine s_nil (r_false ?_)
  refine q_next ?_
  refine k_seq ?_
  refine k_region rfl ?_
  iterate 6 refine a_op ?_
  refine s_nil (r_false ?_)
  refine q_next ?_
  refine k_ret ?_
  refine ⟨.inr rfl, a_ret [(.p 0, .p 0)] (by rw [results29]) ?_ ?_ ?_⟩ <;> simp [-List.map_set, -List.map_replicate, -List.reduceReplicate, -List.map_map, -List.map_drop, -List.map_take, num, bol, txt, w8, w16, w32, w64, lst, cls, rowO, boxO, List.take_of_length_le]

theorem rrd_dnN (Γ : Gl) (s : St4) (lf : Int) (i : Int) : Go.Ot.Good Γ prog 21 [.ptr (.p 0) 0, .t (num i)] [boxO 52 [.t (txt (s 0)), .t (txt (s 1)), .t (txt (s 2)), .t (txt (s 3)), .t (.v (.slice none 0 0)), .t (num (lf)), .t (bol (true))]] (.tup [.t (txt ([])), .t (num 13)]) [some (boxO 52 [.t (txt (s 0)), .t (txt (s 1)), .t (txt (s 2)), .t (txt (s 3)), .t (.v (.slice none 0 0)), .t (num (lf)), .t (bol (true))])] [] := by
  refine a_body F.mix func21 (by rfl) ntmps21 ?_
  refine k_seq ?_
  refine k_region rfl ?_
  refine a_op ?_
  refine a_op ?_
  refine s_nil (r_false ?_)
  refine q_next ?_
  refine k_seq ?_
  refine k_block ?_
  refine k_seq ?_
  refine k_region rfl ?_
  iterate 5 refine a_op ?_
  refine s_nil (r_false ?_)
  refine q_next ?_
  refine a_true ?_
  refine k_seq ?_
  refine k_region rfl ?_
  refine a_op ?_
  refine a_op ?_
  refine s_nil (r_false ?_)
  refine q_next ?_
  refine k_ret ?_
  refine q_block_ret (q_seq_ret ?_)
  refine ⟨.inr rfl, a_ret [(.p 0, .p 0)] (by rw [results21]) ?_ ?_ ?_⟩ <;> simp [-List.map_set, -List.map_replicate, -List.reduceReplicate, -List.map_map, -List.map_drop, -List.map_take, num, bol, txt, w8, w16, w32, w64, lst, cls, rowO, boxO, List.take_of_length_le]

theorem rrd_argN (Γ : Gl) (s : St4) (lf : Int) (i : Int) (h : i < 0 ∨ 4 ≤ i) : Go.Ot.Good Γ prog 21 [.ptr (.p 0) 0, .t (num i)] [boxO 52 [.t (txt (s 0)), .t (txt (s 1)), .t (txt (s 2)), .t (txt (s 3)), .t (.v (.slice none 0 0)), .t (num (lf)), .t (bol (false))]] (.tup [.t (txt ([])), .t (num 1)]) [some (boxO 52 [.t (txt (s 0)), .t (txt (s 1)), .t (txt (s 2)), .t (txt (s 3)), .t (.v (.slice none 0 0)), .t (num (lf)), .t (bol (false))])] [] := by
  refine a_body F.mix func21 (by rfl) ntmps21 ?_
  refine k_seq ?_
  refine k_region rfl ?_
  refine a_op ?_
  refine a_op ?_
  refine s_nil (r_false ?_)
  refine q_next ?_
  refine k_seq ?_
  refine k_block ?_
  refine k_seq ?_
  refine k_region rfl ?_
  iterate 5 refine a_op ?_
  refine s_nil (r_false ?_)
  refine q_next ?_
  refine a_false ?_
  refine k_seq ?_
  refine k_region rfl ?_
  rcases h with h | h
  · skip
    iterate 3 refine a_op ?_
    refine a_no ?_
    refine a_no ?_
    refine a_op ?_
    refine a_op ?_
    refine s_nil (r_false ?_)
    refine q_next ?_
    refine a_true ?_
    refine k_seq ?_
    refine k_region rfl ?_
    refine a_op ?_
    refine a_op ?_
    refine s_nil (r_false ?_)
    refine q_next ?_
    refine k_ret ?_
    refine q_block_ret (q_seq_ret ?_)
    refine ⟨.inr rfl, a_ret [(.p 0, .p 0)] (by rw [results21]) ?_ ?_ ?_⟩ <;> simp [-List.map_set, -List.map_replicate, -List.reduceReplicate, -List.map_map, -List.map_drop, -List.map_take, num, bol, txt, w8, w16, w32, w64, lst, cls, rowO, boxO, List.take_of_length_le]
  · skip
    iterate 3 refine a_op ?_
    refine a_go ?_
    refine a_go ?_
    refine a_op ?_
    refine a_op ?_
    refine s_nil (r_false ?_)
    refine q_next ?_
    refine a_true ?_
    refine k_seq ?_
    refine k_region rfl ?_
    refine a_op ?_
    refine a_op ?_
    refine s_nil (r_false ?_)
    refine q_next ?_
    refine k_ret ?_
    refine q_block_ret (q_seq_ret ?_)
    refine ⟨.inr rfl, a_ret [(.p 0, .p 0)] (by rw [results21]) ?_ ?_ ?_⟩ <;> simp [-List.map_set, -List.map_replicate, -List.reduceReplicate, -List.map_map, -List.map_drop, -List.map_take, num, bol, txt, w8, w16, w32, w64, lst, cls, rowO, boxO, List.take_of_length_le]

theorem rrd_okN (Γ : Gl) (s : St4) (lf : Int) (i : Nat) (hi : i < 4) : Go.Ot.Good Γ prog 21 [.ptr (.p 0) 0, .t (num i)] [boxO 52 [.t (txt (s 0)), .t (txt (s 1)), .t (txt (s 2)), .t (txt (s 3)), .t (.v (.slice none 0 0)), .t (num (lf)), .t (bol (false))]] (.tup [.t (txt ((s) i)), .t (num 0)]) [some (boxO 52 [.t (txt (s 0)), .t (txt (s 1)), .t (txt (s 2)), .t (txt (s 3)), .t (.v (.slice none 0 0)), .t (num (lf)), .t (bol (false))])] [] := by
  refine a_body F.mix func21 (by rfl) ntmps21 ?_
  refine k_seq ?_
  refine k_region rfl ?_
  refine a_op ?_
  refine a_op ?_
  refine s_nil (r_false ?_)
  refine q_next ?_
  refine k_seq ?_
  refine k_block ?_
  refine k_seq ?_
  refine k_region rfl ?_
  iterate 5 refine a_op ?_
  refine s_nil (r_false ?_)
  refine q_next ?_
  refine a_false ?_
  refine k_seq ?_
  refine k_region rfl ?_
  iterate 3 refine a_op ?_
  refine a_go ?_
  refine a_go ?_
  refine a_op ?_
  refine a_op ?_
  refine s_nil (r_false ?_)
  refine q_next ?_
  refine a_false ?_
  refine k_skip ?_
  refine q_block (q_next ?_)
  refine k_seq ?_
  refine k_region rfl ?_
  rcases (show i = 0 ∨ i = 1 ∨ i = 2 ∨ i = 3 by omega) with rfl | rfl | rfl | rfl
  · skip
    iterate 7 refine a_op ?_
    refine s_nil (r_false ?_)
    refine q_next ?_
    refine k_seq ?_
    refine k_seq ?_
    refine k_region rfl ?_
    refine a_op ?_
    refine s_nil (r_false ?_)
    refine q_next ?_
    refine k_block ?_
    refine k_loopF (fun sl L (k : Nat) => ⟨setAll (setBad sl [8, 9, 10, 11, 12, 13, 14, 15, 16, 17, 18, 19, 20, 21, 22, 23, 24, 25, 26, 27, 28, 29, 30, 31, 32, 33, 34, 35, 36, 37, 38, 39, 40, 41, 42, 43, 44, 45, 46, 47, 48, 49, 50, 51, 52]) [(6, .t (txt (s 0))), (7, .t (num k))], Go.Ot.look (L)⟩) (fun k => k ≤ 0) (fun k => 0 - k) (0) (a_le ?_) ?_ ?_
    · refine le_same ?_ ?_ ?_ <;> simp [-List.map_set, -List.map_replicate, -List.reduceReplicate, -List.map_map, -List.map_drop, -List.map_take, num, bol, txt, w8, w16, w32, w64, lst, cls, rowO, boxO, List.take_of_length_le, List.take_zero, nowF_nil]
    · (first | omega | simp)
    · intro k hk
      refine a_st ?_
      refine k_seq ?_
      refine k_seq ?_
      refine k_region rfl ?_
      iterate 7 refine a_op ?_
      refine s_nil (r_false ?_)
      refine q_next ?_
      refine a_false ?_
      refine k_exit ?_
      refine q_seq_exit (q_loopF_exit (q_block_exit (q_next ?_)))
      refine k_seq ?_
      refine k_region rfl ?_
      iterate 3 refine a_op ?_
      refine s_nil (r_false ?_)
      refine q_next ?_
      refine k_ret ?_
      refine ⟨.inr rfl, a_ret [(.p 0, .p 0)] (by rw [results21]) ?_ ?_ ?_⟩ <;> simp [-List.map_set, -List.map_replicate, -List.reduceReplicate, -List.map_map, -List.map_drop, -List.map_take, num, bol, txt, w8, w16, w32, w64, lst, cls, rowO, boxO, List.take_of_length_le]
  · skip
    iterate 7 refine a_op ?_
    refine s_nil (r_false ?_)
    refine q_next ?_
    refine k_seq ?_
    refine k_seq ?_
    refine k_region rfl ?_
    refine a_op ?_
    refine s_nil (r_false ?_)
    refine q_next ?_
    refine k_block ?_
    refine k_loopF (fun sl L (k : Nat) => ⟨setAll (setBad sl [8, 9, 10, 11, 12, 13, 14, 15, 16, 17, 18, 19, 20, 21, 22, 23, 24, 25, 26, 27, 28, 29, 30, 31, 32, 33, 34, 35, 36, 37, 38, 39, 40, 41, 42, 43, 44, 45, 46, 47, 48, 49, 50, 51, 52]) [(6, .t (txt (s 1))), (7, .t (num k))], Go.Ot.look (L)⟩) (fun k => k ≤ 0) (fun k => 0 - k) (0) (a_le ?_) ?_ ?_
    · refine le_same ?_ ?_ ?_ <;> simp [-List.map_set, -List.map_replicate, -List.reduceReplicate, -List.map_map, -List.map_drop, -List.map_take, num, bol, txt, w8, w16, w32, w64, lst, cls, rowO, boxO, List.take_of_length_le, List.take_zero, nowF_nil]
    · (first | omega | simp)
    · intro k hk
      refine a_st ?_
      refine k_seq ?_
      refine k_seq ?_
      refine k_region rfl ?_
      iterate 7 refine a_op ?_
      refine s_nil (r_false ?_)
      refine q_next ?_
      refine a_false ?_
      refine k_exit ?_
      refine q_seq_exit (q_loopF_exit (q_block_exit (q_next ?_)))
      refine k_seq ?_
      refine k_region rfl ?_
      iterate 3 refine a_op ?_
      refine s_nil (r_false ?_)
      refine q_next ?_
      refine k_ret ?_
      refine ⟨.inr rfl, a_ret [(.p 0, .p 0)] (by rw [results21]) ?_ ?_ ?_⟩ <;> simp [-List.map_set, -List.map_replicate, -List.reduceReplicate, -List.map_map, -List.map_drop, -List.map_take, num, bol, txt, w8, w16, w32, w64, lst, cls, rowO, boxO, List.take_of_length_le]
  · skip
    iterate 7 refine a_op ?_
    refine s_nil (r_false ?_)
    refine q_next ?_
    refine k_seq ?_
    refine k_seq ?_
    refine k_region rfl ?_
    refine a_op ?_
    refine s_nil (r_false ?_)
    refine q_next ?_
    refine k_block ?_
    refine k_loopF (fun sl L (k : Nat) => ⟨setAll (setBad sl [8, 9, 10, 11, 12, 13, 14, 15, 16, 17, 18, 19, 20, 21, 22, 23, 24, 25, 26, 27, 28, 29, 30, 31, 32, 33, 34, 35, 36, 37, 38, 39, 40, 41, 42, 43, 44, 45, 46, 47, 48, 49, 50, 51, 52]) [(6, .t (txt (s 2))), (7, .t (num k))], Go.Ot.look (L)⟩) (fun k => k ≤ 0) (fun k => 0 - k) (0) (a_le ?_) ?_ ?_
    · refine le_same ?_ ?_ ?_ <;> simp [-List.map_set, -List.map_replicate, -List.reduceReplicate, -List.map_map, -List.map_drop, -List.map_take, num, bol, txt, w8, w16, w32, w64, lst, cls, rowO, boxO, List.take_of_length_le, List.take_zero, nowF_nil]
    · (first | omega | simp)
    · intro k hk
      refine a_st ?_
      refine k_seq ?_
      refine k_seq ?_
      refine k_region rfl ?_
      iterate 7 refine a_op ?_
      refine s_nil (r_false ?_)
      refine q_next ?_
      refine a_false ?_
      refine k_exit ?_
      refine q_seq_exit (q_loopF_exit (q_block_exit (q_next ?_)))
      refine k_seq ?_
      refine k_region rfl ?_
      iterate 3 refine a_op ?_
      refine s_nil (r_false ?_)
      refine q_next ?_
      refine k_ret ?_
      refine ⟨.inr rfl, a_ret [(.p 0, .p 0)] (by rw [results21]) ?_ ?_ ?_⟩ <;> simp [-List.map_set, -List.map_replicate, -List.reduceReplicate, -List.map_map, -List.map_drop, -List.map_take, num, bol, txt, w8, w16, w32, w64, lst, cls, rowO, boxO, List.take_of_length_le]
  · skip
    iterate 7 refine a_op ?_
    refine s_nil (r_false ?_)
    refine q_next ?_
    refine k_seq ?_
    refine k_seq ?_
    refine k_region rfl ?_
    refine a_op ?_
    refine s_nil (r_false ?_)
    refine q_next ?_
    refine k_block ?_
    refine k_loopF (fun sl L (k : Nat) => ⟨setAll (setBad sl [8, 9, 10, 11, 12, 13, 14, 15, 16, 17, 18, 19, 20, 21, 22, 23, 24, 25, 26, 27, 28, 29, 30, 31, 32, 33, 34, 35, 36, 37, 38, 39, 40, 41, 42, 43, 44, 45, 46, 47, 48, 49, 50, 51, 52]) [(6, .t (txt (s 3))), (7, .t (num k))], Go.Ot.look (L)⟩) (fun k => k ≤ 0) (fun k => 0 - k) (0) (a_le ?_) ?_ ?_
    · refine le_same ?_ ?_ ?_ <;> simp [-List.map_set, -List.map_replicate, -List.reduceReplicate, -List.map_map, -List.map_drop, -List.map_take, num, bol, txt, w8, w16, w32, w64, lst, cls, rowO, boxO, List.take_of_length_le, List.take_zero, nowF_nil]
    · (first | omega | simp)
    · intro k hk
      refine a_st ?_
      refine k_seq ?_
      refine k_seq ?_
      refine k_region rfl ?_
      iterate 7 refine a_op ?_
      refine s_nil (r_false ?_)
      refine q_next ?_
      refine a_false ?_
      refine k_exit ?_
      refine q_seq_exit (q_loopF_exit (q_block_exit (q_next ?_)))
      refine k_seq ?_
      refine k_region rfl ?_
      iterate 3 refine a_op ?_
      refine s_nil (r_false ?_)
      refine q_next ?_
      refine k_ret ?_
      refine ⟨.inr rfl, a_ret [(.p 0, .p 0)] (by rw [results21]) ?_ ?_ ?_⟩ <;> simp [-List.map_set, -List.map_replicate, -List.reduceReplicate, -List.map_map, -List.map_drop, -List.map_take, num, bol, txt, w8, w16, w32, w64, lst, cls, rowO, boxO, List.take_of_length_le]

theorem rtearN (Γ : Gl) (s : St4) (lf : Int) (off : Bool) (n : Int) : Go.Ot.Good Γ prog 19 [.ptr (.p 0) 0, .t (num n)] [boxO 52 [.t (txt (s 0)), .t (txt (s 1)), .t (txt (s 2)), .t (txt (s 3)), .t (.v (.slice none 0 0)), .t (num (lf)), .t (bol (off))]] (.tup []) [some (boxO 52 [.t (txt (s 0)), .t (txt (s 1)), .t (txt (s 2)), .t (txt (s 3)), .t (.v (.slice none 0 0)), .t (num (max 0 n)), .t (bol (off))])] [] := by
  refine a_body F.mix func19 (by rfl) ntmps19 ?_
  refine k_region rfl ?_
  iterate 6 refine a_op ?_
  refine s_nil (r_false ?_)
  refine ⟨.inl rfl, a_ret [(.p 0, .p 0)] (by rw [results19]) ?_ ?_ ?_⟩ <;> simp [-List.map_set, -List.map_replicate, -List.reduceReplicate, -List.map_map, -List.map_drop, -List.map_take, num, bol, txt, w8, w16, w32, w64, lst, cls, rowO, boxO, List.take_of_length_le]

theorem cnt_okR (Γ : Gl) (s : St4) (l : Chs) (lf : Int) (h0 : 0 ≤ lf) (h1 : lf ≤ 9223372036854775807) (h : lf ≠ 1) : Go.Ot.Good Γ prog 29 [.ptr (.p 0) 0] [boxO 52 [.t (txt (s 0)), .t (txt (s 1)), .t (txt (s 2)), .t (txt (s 3)), .msl (.p 1) 0 l.length 2, .t (num (lf)), .t (bol (false))], ⟨(chL l).map D.t, 67, true, true⟩] (.t (bol true)) [some (boxO 52 [.t (txt (s 0)), .t (txt (s 1)), .t (txt (s 2)), .t (txt (s 3)), .msl (.p 1) 0 l.length 2, .t (num (max 0 (lf - 1))), .t (bol (false))]), some ⟨(chL l).map D.t, 67, true, true⟩] [] := by
  refine a_body F.mix func29 (by rfl) ntmps29 ?_
  refine k_seq ?_
  refine k_region rfl ?_
  refine a_op ?_
  refine s_nil (r_false ?_)
  refine q_next ?_
  refine k_seq ?_
  refine k_seq ?_
  refine k_region rfl ?_
  iterate 5 refine a_op ?_
  refine s_nil (r_false ?_)
  refine q_next ?_
  refine a_if (fun hc0 => ?_) (fun hc0 => ?_)
  · (try simp only [Bool.and_eq_true, Bool.or_eq_true, Bool.or_eq_false_iff, Bool.not_eq_true', Bool.not_eq_false', dec_t, dec_f, Bool.and_eq_false_imp, beq_iff_eq, beq_eq_false_iff_ne, ne_eq] at hc0)
    have e : max 0 (lf - 1) = lf - 1 := by omega
    refine k_seq ?_
    refine k_region rfl ?_
    iterate 8 refine a_op ?_
    refine s_nil (r_false ?_)
    refine q_next ?_
    refine k_region rfl ?_
    iterate 9 refine a_op ?_
    refine s_nil (r_false ?_)
    refine q_next ?_
    refine k_seq ?_
    refine k_region rfl ?_
    iterate 6 refine a_op ?_
    refine s_nil (r_false ?_)
    refine q_next ?_
    refine k_ret ?_
    refine ⟨.inr rfl, a_ret [(.p 0, .p 0), (.p 1, .p 1)] (by rw [results29]) ?_ ?_ ?_⟩ <;> simp [-List.map_set, -List.map_replicate, -List.reduceReplicate, -List.map_map, -List.map_drop, -List.map_take, num, bol, txt, w8, w16, w32, w64, lst, cls, rowO, boxO, List.take_of_length_le, e]
  · (try simp only [Bool.and_eq_true, Bool.or_eq_true, Bool.or_eq_false_iff, Bool.not_eq_true', Bool.not_eq_false', dec_t, dec_f, Bool.and_eq_false_imp, beq_iff_eq, beq_eq_false_iff_ne, ne_eq] at hc0)
    have e : max 0 (lf - 1) = lf := by omega
    refine k_skip ?_
    refine q_next ?_
    refine k_seq ?_
    refine k_region rfl ?_
    iterate 6 refine a_op ?_
    refine s_nil (r_false ?_)
    refine q_next ?_
    refine k_ret ?_
    refine ⟨.inr rfl, a_ret [(.p 0, .p 0), (.p 1, .p 1)] (by rw [results29]) ?_ ?_ ?_⟩ <;> simp [-List.map_set, -List.map_replicate, -List.reduceReplicate, -List.map_map, -List.map_drop, -List.map_take, num, bol, txt, w8, w16, w32, w64, lst, cls, rowO, boxO, List.take_of_length_le, e]

theorem cnt_lastR (Γ : Gl) (s : St4) (l : Chs)  : Go.Ot.Good Γ prog 29 [.ptr (.p 0) 0] [boxO 52 [.t (txt (s 0)), .t (txt (s 1)), .t (txt (s 2)), .t (txt (s 3)), .msl (.p 1) 0 l.length 2, .t (num (1)), .t (bol (false))], ⟨(chL l).map D.t, 67, true, true⟩] (.t (bol false)) [some (boxO 52 [.t (txt (s 0)), .t (txt (s 1)), .t (txt (s 2)), .t (txt (s 3)), .msl (.p 1) 0 l.length 2, .t (num (0)), .t (bol (true))]), some ⟨(chL l).map D.t, 67, true, true⟩] [] := by
  refine a_body F.mix func29 (by rfl) ntmps29 ?_
  refine k_seq ?_
  refine k_region rfl ?_
  refine a_op ?_
  refine s_nil (r_false ?_)
  refine q_next ?_
  refine k_seq ?_
  refine k_seq ?_
  refine k_region rfl ?_
  iterate 5 refine a_op ?_
  refine s_nil (r_false ?_)
  refine q_next ?_
  refine a_true ?_
  refine k_seq ?_
  refine k_region rfl ?_
  iterate 8 refine a_op ?_
  refine s_nil (r_false ?_)
  refine q_next ?_
  refine k_region rfl ?_
  iterate 9 refine a_op ?_
  refine s_nil (r_false ?_)
  refine q_next ?_
  refine k_seq ?_
  refine k_region rfl ?_
  iterate 6 refine a_op ?_
  refine s_nil (r_false ?_)
  refine q_next ?_
  refine k_ret ?_
  refine ⟨.inr rfl, a_ret [(.p 0, .p 0), (.p 1, .p 1)] (by rw [results29]) ?_ ?_ ?_⟩ <;> simp [-List.map_set, -List.map_replicate, -List.reduceReplicate, -List.map_map, -List.map_drop, -List.map_take, num, bol, txt, w8, w16, w32, w64, lst, cls, rowO, boxO, List.take_of_length_le]

theorem rrd_dnR (Γ : Gl) (s : St4) (l : Chs) (hl : l.length ≤ 1000000) (h4 : In4 l) (lf : Int) (i : Int) : Go.Ot.Good Γ prog 21 [.ptr (.p 0) 0, .t (num i)] [boxO 52 [.t (txt (s 0)), .t (txt (s 1)), .t (txt (s 2)), .t (txt (s 3)), .msl (.p 1) 0 l.length 2, .t (num (lf)), .t (bol (true))], ⟨(chL l).map D.t, 67, true, true⟩] (.tup [.t (txt ([])), .t (num 13)]) [some (boxO 52 [.t (txt (s 0)), .t (txt (s 1)), .t (txt (s 2)), .t (txt (s 3)), .msl (.p 1) 0 l.length 2, .t (num (lf)), .t (bol (true))]), some ⟨(chL l).map D.t, 67, true, true⟩] [] := by
  refine a_body F.mix func21 (by rfl) ntmps21 ?_
  refine k_seq ?_
  refine k_region rfl ?_
  refine a_op ?_
  refine a_op ?_
  refine s_nil (r_false ?_)
  refine q_next ?_
  refine k_seq ?_
  refine k_block ?_
  refine k_seq ?_
  refine k_region rfl ?_
  iterate 5 refine a_op ?_
  refine s_nil (r_false ?_)
  refine q_next ?_
  refine a_true ?_
  refine k_seq ?_
  refine k_region rfl ?_
  refine a_op ?_
  refine a_op ?_
  refine s_nil (r_false ?_)
  refine q_next ?_
  refine k_ret ?_
  refine q_block_ret (q_seq_ret ?_)
  refine ⟨.inr rfl, a_ret [(.p 0, .p 0), (.p 1, .p 1)] (by rw [results21]) ?_ ?_ ?_⟩ <;> simp [-List.map_set, -List.map_replicate, -List.reduceReplicate, -List.map_map, -List.map_drop, -List.map_take, num, bol, txt, w8, w16, w32, w64, lst, cls, rowO, boxO, List.take_of_length_le]

theorem rrd_argR (Γ : Gl) (s : St4) (l : Chs) (hl : l.length ≤ 1000000) (h4 : In4 l) (lf : Int) (i : Int) (h : i < 0 ∨ 4 ≤ i) : Go.Ot.Good Γ prog 21 [.ptr (.p 0) 0, .t (num i)] [boxO 52 [.t (txt (s 0)), .t (txt (s 1)), .t (txt (s 2)), .t (txt (s 3)), .msl (.p 1) 0 l.length 2, .t (num (lf)), .t (bol (false))], ⟨(chL l).map D.t, 67, true, true⟩] (.tup [.t (txt ([])), .t (num 1)]) [some (boxO 52 [.t (txt (s 0)), .t (txt (s 1)), .t (txt (s 2)), .t (txt (s 3)), .msl (.p 1) 0 l.length 2, .t (num (lf)), .t (bol (false))]), some ⟨(chL l).map D.t, 67, true, true⟩] [] := by
  refine a_body F.mix func21 (by rfl) ntmps21 ?_
  refine k_seq ?_
  refine k_region rfl ?_
  refine a_op ?_
  refine a_op ?_
  refine s_nil (r_false ?_)
  refine q_next ?_
  refine k_seq ?_
  refine k_block ?_
  refine k_seq ?_
  refine k_region rfl ?_
  iterate 5 refine a_op ?_
  refine s_nil (r_false ?_)
  refine q_next ?_
  refine a_false ?_
  refine k_seq ?_
  refine k_region rfl ?_
  rcases h with h | h
  · skip
    iterate 3 refine a_op ?_
    refine a_no ?_
    refine a_no ?_
    refine a_op ?_
    refine a_op ?_
    refine s_nil (r_false ?_)
    refine q_next ?_
    refine a_true ?_
    refine k_seq ?_
    refine k_region rfl ?_
    refine a_op ?_
    refine a_op ?_
    refine s_nil (r_false ?_)
    refine q_next ?_
    refine k_ret ?_
    refine q_block_ret (q_seq_ret ?_)
    refine ⟨.inr rfl, a_ret [(.p 0, .p 0), (.p 1, .p 1)] (by rw [results21]) ?_ ?_ ?_⟩ <;> simp [-List.map_set, -List.map_replicate, -List.reduceReplicate, -List.map_map, -List.map_drop, -List.map_take, num, bol, txt, w8, w16, w32, w64, lst, cls, rowO, boxO, List.take_of_length_le]
  · skip
    iterate 3 refine a_op ?_
    refine a_go ?_
    refine a_go ?_
    refine a_op ?_
    refine a_op ?_
    refine s_nil (r_false ?_)
    refine q_next ?_
    refine a_true ?_
    refine k_seq ?_
    refine k_region rfl ?_
    refine a_op ?_
    refine a_op ?_
    refine s_nil (r_false ?_)
    refine q_next ?_
    refine k_ret ?_
    refine q_block_ret (q_seq_ret ?_)
    refine ⟨.inr rfl, a_ret [(.p 0, .p 0), (.p 1, .p 1)] (by rw [results21]) ?_ ?_ ?_⟩ <;> simp [-List.map_set, -List.map_replicate, -List.reduceReplicate, -List.map_map, -List.map_drop, -List.map_take, num, bol, txt, w8, w16, w32, w64, lst, cls, rowO, boxO, List.take_of_length_le]

theorem rrd_okR (Γ : Gl) (s : St4) (l : Chs) (hl : l.length ≤ 1000000) (h4 : In4 l) (lf : Int) (i : Nat) (hi : i < 4) : Go.Ot.Good Γ prog 21 [.ptr (.p 0) 0, .t (num i)] [boxO 52 [.t (txt (s 0)), .t (txt (s 1)), .t (txt (s 2)), .t (txt (s 3)), .msl (.p 1) 0 l.length 2, .t (num (lf)), .t (bol (false))], ⟨(chL l).map D.t, 67, true, true⟩] (.tup [.t (txt ((nowF s l) i)), .t (num 0)]) [some (boxO 52 [.t (txt (s 0)), .t (txt (s 1)), .t (txt (s 2)), .t (txt (s 3)), .msl (.p 1) 0 l.length 2, .t (num (lf)), .t (bol (false))]), some ⟨(chL l).map D.t, 67, true, true⟩] [] := by
  refine a_body F.mix func21 (by rfl) ntmps21 ?_
  refine k_seq ?_
  refine k_region rfl ?_
  refine a_op ?_
  refine a_op ?_
  refine s_nil (r_false ?_)
  refine q_next ?_
  refine k_seq ?_
  refine k_block ?_
  refine k_seq ?_
  refine k_region rfl ?_
  iterate 5 refine a_op ?_
  refine s_nil (r_false ?_)
  refine q_next ?_
  refine a_false ?_
  refine k_seq ?_
  refine k_region rfl ?_
  iterate 3 refine a_op ?_
  refine a_go ?_
  refine a_go ?_
  refine a_op ?_
  refine a_op ?_
  refine s_nil (r_false ?_)
  refine q_next ?_
  refine a_false ?_
  refine k_skip ?_
  refine q_block (q_next ?_)
  refine k_seq ?_
  refine k_region rfl ?_
  rcases (show i = 0 ∨ i = 1 ∨ i = 2 ∨ i = 3 by omega) with rfl | rfl | rfl | rfl
  · skip
    iterate 7 refine a_op ?_
    refine s_nil (r_false ?_)
    refine q_next ?_
    refine k_seq ?_
    refine k_seq ?_
    refine k_region rfl ?_
    refine a_op ?_
    refine s_nil (r_false ?_)
    refine q_next ?_
    refine k_block ?_
    refine k_loopF (fun sl L (k : Nat) => ⟨setAll (setBad sl [8, 9, 10, 11, 12, 13, 14, 15, 16, 17, 18, 19, 20, 21, 22, 23, 24, 25, 26, 27, 28, 29, 30, 31, 32, 33, 34, 35, 36, 37, 38, 39, 40, 41, 42, 43, 44, 45, 46, 47, 48, 49, 50, 51, 52]) [(6, .t (txt (nowF s (l.take k) 0))), (7, .t (num k))], Go.Ot.look (L)⟩) (fun k => k ≤ l.length) (fun k => l.length - k) (0) (a_le ?_) ?_ ?_
    · refine le_same ?_ ?_ ?_ <;> simp [-List.map_set, -List.map_replicate, -List.reduceReplicate, -List.map_map, -List.map_drop, -List.map_take, num, bol, txt, w8, w16, w32, w64, lst, cls, rowO, boxO, List.take_of_length_le, List.take_zero, nowF_nil]
    · (first | omega | simp)
    · intro k hk
      refine a_st ?_
      refine k_seq ?_
      refine k_seq ?_
      refine k_region rfl ?_
      iterate 7 refine a_op ?_
      refine s_nil (r_false ?_)
      refine q_next ?_
      refine a_if (fun hc2 => ?_) (fun hc2 => ?_)
      · (try simp only [Bool.and_eq_true, Bool.or_eq_true, Bool.or_eq_false_iff, Bool.not_eq_true', Bool.not_eq_false', dec_t, dec_f, Bool.and_eq_false_imp, beq_iff_eq, beq_eq_false_iff_ne, ne_eq] at hc2)
        refine k_skip ?_
        refine q_next ?_
        refine k_seq ?_
        refine k_block ?_
        refine k_seq ?_
        refine k_region rfl ?_
        iterate 8 refine a_op ?_
        obtain ⟨e, he⟩ : ∃ e, l.getD k default = e := ⟨_, rfl⟩
        simp only [he]
        refine a_op ?_
        refine a_op ?_
        refine s_nil (r_false ?_)
        refine q_next ?_
        refine a_if (fun hc3 => ?_) (fun hc3 => ?_)
        · (try simp only [Bool.and_eq_true, Bool.or_eq_true, Bool.or_eq_false_iff, Bool.not_eq_true', Bool.not_eq_false', dec_t, dec_f, Bool.and_eq_false_imp, beq_iff_eq, beq_eq_false_iff_ne, ne_eq] at hc3)
          have hn : nowF s (l.take (k + 1)) 0 = e.2 := by rw [nowF_snoc s l k (by omega), show l.getD k default = e from he]; exact if_pos (by omega)
          refine k_region rfl ?_
          iterate 8 refine a_op ?_
          simp only [he]
          refine a_op ?_
          refine s_nil (r_false ?_)
          refine q_block (q_next ?_)
          refine k_region rfl ?_
          iterate 3 refine a_op ?_
          refine s_nil (r_false ?_)
          refine q_loopF (k + 1) (a_le ?_) ?_ ?_
          · refine le_same ?_ ?_ ?_ <;> simp [-List.map_set, -List.map_replicate, -List.reduceReplicate, -List.map_map, -List.map_drop, -List.map_take, num, bol, txt, w8, w16, w32, w64, lst, cls, rowO, boxO, List.take_of_length_le, hn]
          · (first | omega | (simp_all <;> omega))
          · (first | omega | (simp only []; omega))
        · (try simp only [Bool.and_eq_true, Bool.or_eq_true, Bool.or_eq_false_iff, Bool.not_eq_true', Bool.not_eq_false', dec_t, dec_f, Bool.and_eq_false_imp, beq_iff_eq, beq_eq_false_iff_ne, ne_eq] at hc3)
          have hn : nowF s (l.take (k + 1)) 0 = nowF s (l.take k) 0 := by rw [nowF_snoc s l k (by omega), show l.getD k default = e from he]; exact if_neg (by omega)
          refine k_skip ?_
          refine q_block (q_next ?_)
          refine k_region rfl ?_
          iterate 3 refine a_op ?_
          refine s_nil (r_false ?_)
          refine q_loopF (k + 1) (a_le ?_) ?_ ?_
          · refine le_same ?_ ?_ ?_ <;> simp [-List.map_set, -List.map_replicate, -List.reduceReplicate, -List.map_map, -List.map_drop, -List.map_take, num, bol, txt, w8, w16, w32, w64, lst, cls, rowO, boxO, List.take_of_length_le, hn]
          · (first | omega | (simp_all <;> omega))
          · (first | omega | (simp only []; omega))
      · (try simp only [Bool.and_eq_true, Bool.or_eq_true, Bool.or_eq_false_iff, Bool.not_eq_true', Bool.not_eq_false', dec_t, dec_f, Bool.and_eq_false_imp, beq_iff_eq, beq_eq_false_iff_ne, ne_eq] at hc2)
        obtain rfl : k = l.length := by omega
        simp only [List.take_length]
        refine k_exit ?_
        refine q_seq_exit (q_loopF_exit (q_block_exit (q_next ?_)))
        refine k_seq ?_
        refine k_region rfl ?_
        iterate 3 refine a_op ?_
        refine s_nil (r_false ?_)
        refine q_next ?_
        refine k_ret ?_
        refine ⟨.inr rfl, a_ret [(.p 0, .p 0), (.p 1, .p 1)] (by rw [results21]) ?_ ?_ ?_⟩ <;> simp [-List.map_set, -List.map_replicate, -List.reduceReplicate, -List.map_map, -List.map_drop, -List.map_take, num, bol, txt, w8, w16, w32, w64, lst, cls, rowO, boxO, List.take_of_length_le]
  · skip
    iterate 7 refine a_op ?_
    refine s_nil (r_false ?_)
    refine q_next ?_
    refine k_seq ?_
    refine k_seq ?_
    refine k_region rfl ?_
    refine a_op ?_
    refine s_nil (r_false ?_)
    refine q_next ?_
    refine k_block ?_
    refine k_loopF (fun sl L (k : Nat) => ⟨setAll (setBad sl [8, 9, 10, 11, 12, 13, 14, 15, 16, 17, 18, 19, 20, 21, 22, 23, 24, 25, 26, 27, 28, 29, 30, 31, 32, 33, 34, 35, 36, 37, 38, 39, 40, 41, 42, 43, 44, 45, 46, 47, 48, 49, 50, 51, 52]) [(6, .t (txt (nowF s (l.take k) 1))), (7, .t (num k))], Go.Ot.look (L)⟩) (fun k => k ≤ l.length) (fun k => l.length - k) (0) (a_le ?_) ?_ ?_
    · refine le_same ?_ ?_ ?_ <;> simp [-List.map_set, -List.map_replicate, -List.reduceReplicate, -List.map_map, -List.map_drop, -List.map_take, num, bol, txt, w8, w16, w32, w64, lst, cls, rowO, boxO, List.take_of_length_le, List.take_zero, nowF_nil]
    · (first | omega | simp)
    · intro k hk
      refine a_st ?_
      refine k_seq ?_
      refine k_seq ?_
      refine k_region rfl ?_
      iterate 7 refine a_op ?_
      refine s_nil (r_false ?_)
      refine q_next ?_
      refine a_if (fun hc2 => ?_) (fun hc2 => ?_)
      · (try simp only [Bool.and_eq_true, Bool.or_eq_true, Bool.or_eq_false_iff, Bool.not_eq_true', Bool.not_eq_false', dec_t, dec_f, Bool.and_eq_false_imp, beq_iff_eq, beq_eq_false_iff_ne, ne_eq] at hc2)
        refine k_skip ?_
        refine q_next ?_
        refine k_seq ?_
        refine k_block ?_
        refine k_seq ?_
        refine k_region rfl ?_
        iterate 8 refine a_op ?_
        obtain ⟨e, he⟩ : ∃ e, l.getD k default = e := ⟨_, rfl⟩
        simp only [he]
        refine a_op ?_
        refine a_op ?_
        refine s_nil (r_false ?_)
        refine q_next ?_
        refine a_if (fun hc3 => ?_) (fun hc3 => ?_)
        · (try simp only [Bool.and_eq_true, Bool.or_eq_true, Bool.or_eq_false_iff, Bool.not_eq_true', Bool.not_eq_false', dec_t, dec_f, Bool.and_eq_false_imp, beq_iff_eq, beq_eq_false_iff_ne, ne_eq] at hc3)
          have hn : nowF s (l.take (k + 1)) 1 = e.2 := by rw [nowF_snoc s l k (by omega), show l.getD k default = e from he]; exact if_pos (by omega)
          refine k_region rfl ?_
          iterate 8 refine a_op ?_
          simp only [he]
          refine a_op ?_
          refine s_nil (r_false ?_)
          refine q_block (q_next ?_)
          refine k_region rfl ?_
          iterate 3 refine a_op ?_
          refine s_nil (r_false ?_)
          refine q_loopF (k + 1) (a_le ?_) ?_ ?_
          · refine le_same ?_ ?_ ?_ <;> simp [-List.map_set, -List.map_replicate, -List.reduceReplicate, -List.map_map, -List.map_drop, -List.map_take, num, bol, txt, w8, w16, w32, w64, lst, cls, rowO, boxO, List.take_of_length_le, hn]
          · (first | omega | (simp_all <;> omega))
          · (first | omega | (simp only []; omega))
        · (try simp only [Bool.and_eq_true, Bool.or_eq_true, Bool.or_eq_false_iff, Bool.not_eq_true', Bool.not_eq_false', dec_t, dec_f, Bool.and_eq_false_imp, beq_iff_eq, beq_eq_false_iff_ne, ne_eq] at hc3)
          have hn : nowF s (l.take (k + 1)) 1 = nowF s (l.take k) 1 := by rw [nowF_snoc s l k (by omega), show l.getD k default = e from he]; exact if_neg (by omega)
          refine k_skip ?_
          refine q_block (q_next ?_)
          refine k_region rfl ?_
          iterate 3 refine a_op ?_
          refine s_nil (r_false ?_)
          refine q_loopF (k + 1) (a_le ?_) ?_ ?_
          · refine le_same ?_ ?_ ?_ <;> simp [-List.map_set, -List.map_replicate, -List.reduceReplicate, -List.map_map, -List.map_drop, -List.map_take, num, bol, txt, w8, w16, w32, w64, lst, cls, rowO, boxO, List.take_of_length_le, hn]
          · (first | omega | (simp_all <;> omega))
          · (first | omega | (simp only []; omega))
      · (try simp only [Bool.and_eq_true, Bool.or_eq_true, Bool.or_eq_false_iff, Bool.not_eq_true', Bool.not_eq_false', dec_t, dec_f, Bool.and_eq_false_imp, beq_iff_eq, beq_eq_false_iff_ne, ne_eq] at hc2)
        obtain rfl : k = l.length := by omega
        simp only [List.take_length]
        refine k_exit ?_
        refine q_seq_exit (q_loopF_exit (q_block_exit (q_next ?_)))
        refine k_seq ?_
        refine k_region rfl ?_
        iterate 3 refine a_op ?_
        refine s_nil (r_false ?_)
        refine q_next ?_
        refine k_ret ?_
        refine ⟨.inr rfl, a_ret [(.p 0, .p 0), (.p 1, .p 1)] (by rw [results21]) ?_ ?_ ?_⟩ <;> simp [-List.map_set, -List.map_replicate, -List.reduceReplicate, -List.map_map, -List.map_drop, -List.map_take, num, bol, txt, w8, w16, w32, w64, lst, cls, rowO, boxO, List.take_of_length_le]
  · skip
    iterate 7 refine a_op ?_
    refine s_nil (r_false ?_)
    refine q_next ?_
    refine k_seq ?_
    refine k_seq ?_
    refine k_region rfl ?_
    refine a_op ?_
    refine s_nil (r_false ?_)
    refine q_next ?_
    refine k_block ?_
    refine k_loopF (fun sl L (k : Nat) => ⟨setAll (setBad sl [8, 9, 10, 11, 12, 13, 14, 15, 16, 17, 18, 19, 20, 21, 22, 23, 24, 25, 26, 27, 28, 29, 30, 31, 32, 33, 34, 35, 36, 37, 38, 39, 40, 41, 42, 43, 44, 45, 46, 47, 48, 49, 50, 51, 52]) [(6, .t (txt (nowF s (l.take k) 2))), (7, .t (num k))], Go.Ot.look (L)⟩) (fun k => k ≤ l.length) (fun k => l.length - k) (0) (a_le ?_) ?_ ?_
    · refine le_same ?_ ?_ ?_ <;> simp [-List.map_set, -List.map_replicate, -List.reduceReplicate, -List.map_map, -List.map_drop, -List.map_take, num, bol, txt, w8, w16, w32, w64, lst, cls, rowO, boxO, List.take_of_length_le, List.take_zero, nowF_nil]
    · (first | omega | simp)
    · intro k hk
      refine a_st ?_
      refine k_seq ?_
      refine k_seq ?_
      refine k_region rfl ?_
      iterate 7 refine a_op ?_
      refine s_nil (r_false ?_)
      refine q_next ?_
      refine a_if (fun hc2 => ?_) (fun hc2 => ?_)
      · (try simp only [Bool.and_eq_true, Bool.or_eq_true, Bool.or_eq_false_iff, Bool.not_eq_true', Bool.not_eq_false', dec_t, dec_f, Bool.and_eq_false_imp, beq_iff_eq, beq_eq_false_iff_ne, ne_eq] at hc2)
        refine k_skip ?_
        refine q_next ?_
        refine k_seq ?_
        refine k_block ?_
        refine k_seq ?_
        refine k_region rfl ?_
        iterate 8 refine a_op ?_
        obtain ⟨e, he⟩ : ∃ e, l.getD k default = e := ⟨_, rfl⟩
        simp only [he]
        refine a_op ?_
        refine a_op ?_
        refine s_nil (r_false ?_)
        refine q_next ?_
        refine a_if (fun hc3 => ?_) (fun hc3 => ?_)
        · (try simp only [Bool.and_eq_true, Bool.or_eq_true, Bool.or_eq_false_iff, Bool.not_eq_true', Bool.not_eq_false', dec_t, dec_f, Bool.and_eq_false_imp, beq_iff_eq, beq_eq_false_iff_ne, ne_eq] at hc3)
          have hn : nowF s (l.take (k + 1)) 2 = e.2 := by rw [nowF_snoc s l k (by omega), show l.getD k default = e from he]; exact if_pos (by omega)
          refine k_region rfl ?_
          iterate 8 refine a_op ?_
          simp only [he]
          refine a_op ?_
          refine s_nil (r_false ?_)
          refine q_block (q_next ?_)
          refine k_region rfl ?_
          iterate 3 refine a_op ?_
          refine s_nil (r_false ?_)
          refine q_loopF (k + 1) (a_le ?_) ?_ ?_
          · refine le_same ?_ ?_ ?_ <;> simp [-List.map_set, -List.map_replicate, -List.reduceReplicate, -List.map_map, -List.map_drop, -List.map_take, num, bol, txt, w8, w16, w32, w64, lst, cls, rowO, boxO, List.take_of_length_le, hn]
          · (first | omega | (simp_all <;> omega))
          · (first | omega | (simp only []; omega))
        · (try simp only [Bool.and_eq_true, Bool.or_eq_true, Bool.or_eq_false_iff, Bool.not_eq_true', Bool.not_eq_false', dec_t, dec_f, Bool.and_eq_false_imp, beq_iff_eq, beq_eq_false_iff_ne, ne_eq] at hc3)
          have hn : nowF s (l.take (k + 1)) 2 = nowF s (l.take k) 2 := by rw [nowF_snoc s l k (by omega), show l.getD k default = e from he]; exact if_neg (by omega)
          refine k_skip ?_
          refine q_block (q_next ?_)
          refine k_region rfl ?_
          iterate 3 refine a_op ?_
          refine s_nil (r_false ?_)
          refine q_loopF (k + 1) (a_le ?_) ?_ ?_
          · refine le_same ?_ ?_ ?_ <;> simp [-List.map_set, -List.map_replicate, -List.reduceReplicate, -List.map_map, -List.map_drop, -List.map_take, num, bol, txt, w8, w16, w32, w64, lst, cls, rowO, boxO, List.take_of_length_le, hn]
          · (first | omega | (simp_all <;> omega))
          · (first | omega | (simp only []; omega))
      · (try simp only [Bool.and_eq_true, Bool.or_eq_true, Bool.or_eq_false_iff, Bool.not_eq_true', Bool.not_eq_false', dec_t, dec_f, Bool.and_eq_false_imp, beq_iff_eq, beq_eq_false_iff_ne, ne_eq] at hc2)
        obtain rfl : k = l.length := by omega
        simp only [List.take_length]
        refine k_exit ?_
        refine q_seq_exit (q_loopF_exit (q_block_exit (q_next ?_)))
        refine k_seq ?_
        refine k_region rfl ?_
        iterate 3 refine a_op ?_
        refine s_nil (r_false ?_)
        refine q_next ?_
        refine k_ret ?_
        refine ⟨.inr rfl, a_ret [(.p 0, .p 0), (.p 1, .p 1)] (by rw [results21]) ?_ ?_ ?_⟩ <;> simp [-List.map_set, -List.map_replicate, -List.reduceReplicate, -List.map_map, -List.map_drop, -List.map_take, num, bol, txt, w8, w16, w32, w64, lst, cls, rowO, boxO, List.take_of_length_le]
  · skip
    iterate 7 refine a_op ?_
    refine s_nil (r_false ?_)
    refine q_next ?_
    refine k_seq ?_
    refine k_seq ?_
    refine k_region rfl ?_
    refine a_op ?_
    refine s_nil (r_false ?_)
    refine q_next ?_
    refine k_block ?_
    refine k_loopF (fun sl L (k : Nat) => ⟨setAll (setBad sl [8, 9, 10, 11, 12, 13, 14, 15, 16, 17, 18, 19, 20, 21, 22, 23, 24, 25, 26, 27, 28, 29, 30, 31, 32, 33, 34, 35, 36, 37, 38, 39, 40, 41, 42, 43, 44, 45, 46, 47, 48, 49, 50, 51, 52]) [(6, .t (txt (nowF s (l.take k) 3))), (7, .t (num k))], Go.Ot.look (L)⟩) (fun k => k ≤ l.length) (fun k => l.length - k) (0) (a_le ?_) ?_ ?_
    · refine le_same ?_ ?_ ?_ <;> simp [-List.map_set, -List.map_replicate, -List.reduceReplicate, -List.map_map, -List.map_drop, -List.map_take, num, bol, txt, w8, w16, w32, w64, lst, cls, rowO, boxO, List.take_of_length_le, List.take_zero, nowF_nil]
    · (first | omega | simp)
    · intro k hk
      refine a_st ?_
      refine k_seq ?_
      refine k_seq ?_
      refine k_region rfl ?_
      iterate 7 refine a_op ?_
      refine s_nil (r_false ?_)
      refine q_next ?_
      refine a_if (fun hc2 => ?_) (fun hc2 => ?_)
      · (try simp only [Bool.and_eq_true, Bool.or_eq_true, Bool.or_eq_false_iff, Bool.not_eq_true', Bool.not_eq_false', dec_t, dec_f, Bool.and_eq_false_imp, beq_iff_eq, beq_eq_false_iff_ne, ne_eq] at hc2)
        refine k_skip ?_
        refine q_next ?_
        refine k_seq ?_
        refine k_block ?_
        refine k_seq ?_
        refine k_region rfl ?_
        iterate 8 refine a_op ?_
        obtain ⟨e, he⟩ : ∃ e, l.getD k default = e := ⟨_, rfl⟩
        simp only [he]
        refine a_op ?_
        refine a_op ?_
        refine s_nil (r_false ?_)
        refine q_next ?_
        refine a_if (fun hc3 => ?_) (fun hc3 => ?_)
        · (try simp only [Bool.and_eq_true, Bool.or_eq_true, Bool.or_eq_false_iff, Bool.not_eq_true', Bool.not_eq_false', dec_t, dec_f, Bool.and_eq_false_imp, beq_iff_eq, beq_eq_false_iff_ne, ne_eq] at hc3)
          have hn : nowF s (l.take (k + 1)) 3 = e.2 := by rw [nowF_snoc s l k (by omega), show l.getD k default = e from he]; exact if_pos (by omega)
          refine k_region rfl ?_
          iterate 8 refine a_op ?_
          simp only [he]
          refine a_op ?_
          refine s_nil (r_false ?_)
          refine q_block (q_next ?_)
          refine k_region rfl ?_
          iterate 3 refine a_op ?_
          refine s_nil (r_false ?_)
          refine q_loopF (k + 1) (a_le ?_) ?_ ?_
          · refine le_same ?_ ?_ ?_ <;> simp [-List.map_set, -List.map_replicate, -List.reduceReplicate, -List.map_map, -List.map_drop, -List.map_take, num, bol, txt, w8, w16, w32, w64, lst, cls, rowO, boxO, List.take_of_length_le, hn]
          · (first | omega | (simp_all <;> omega))
          · (first | omega | (simp only []; omega))
        · (try simp only [Bool.and_eq_true, Bool.or_eq_true, Bool.or_eq_false_iff, Bool.not_eq_true', Bool.not_eq_false', dec_t, dec_f, Bool.and_eq_false_imp, beq_iff_eq, beq_eq_false_iff_ne, ne_eq] at hc3)
          have hn : nowF s (l.take (k + 1)) 3 = nowF s (l.take k) 3 := by rw [nowF_snoc s l k (by omega), show l.getD k default = e from he]; exact if_neg (by omega)
          refine k_skip ?_
          refine q_block (q_next ?_)
          refine k_region rfl ?_
          iterate 3 refine a_op ?_
          refine s_nil (r_false ?_)
          refine q_loopF (k + 1) (a_le ?_) ?_ ?_
          · refine le_same ?_ ?_ ?_ <;> simp [-List.map_set, -List.map_replicate, -List.reduceReplicate, -List.map_map, -List.map_drop, -List.map_take, num, bol, txt, w8, w16, w32, w64, lst, cls, rowO, boxO, List.take_of_length_le, hn]
          · (first | omega | (simp_all <;> omega))
          · (first | omega | (simp only []; omega))
      · (try simp only [Bool.and_eq_true, Bool.or_eq_true, Bool.or_eq_false_iff, Bool.not_eq_true', Bool.not_eq_false', dec_t, dec_f, Bool.and_eq_false_imp, beq_iff_eq, beq_eq_false_iff_ne, ne_eq] at hc2)
        obtain rfl : k = l.length := by omega
        simp only [List.take_length]
        refine k_exit ?_
        refine q_seq_exit (q_loopF_exit (q_block_exit (q_next ?_)))
        refine k_seq ?_
        refine k_region rfl ?_
        iterate 3 refine a_op ?_
        refine s_nil (r_false ?_)
        refine q_next ?_
        refine k_ret ?_
        refine ⟨.inr rfl, a_ret [(.p 0, .p 0), (.p 1, .p 1)] (by rw [results21]) ?_ ?_ ?_⟩ <;> simp [-List.map_set, -List.map_replicate, -List.reduceReplicate, -List.map_map, -List.map_drop, -List.map_take, num, bol, txt, w8, w16, w32, w64, lst, cls, rowO, boxO, List.take_of_length_le]

theorem rtearR (Γ : Gl) (s : St4) (l : Chs) (hl : l.length ≤ 1000000) (h4 : In4 l) (lf : Int) (off : Bool) (n : Int) : Go.Ot.Good Γ prog 19 [.ptr (.p 0) 0, .t (num n)] [boxO 52 [.t (txt (s 0)), .t (txt (s 1)), .t (txt (s 2)), .t (txt (s 3)), .msl (.p 1) 0 l.length 2, .t (num (lf)), .t (bol (off))], ⟨(chL l).map D.t, 67, true, true⟩] (.tup []) [some (boxO 52 [.t (txt (s 0)), .t (txt (s 1)), .t (txt (s 2)), .t (txt (s 3)), .msl (.p 1) 0 l.length 2, .t (num (max 0 n)), .t (bol (off))]), some ⟨(chL l).map D.t, 67, true, true⟩] [] := by
  refine a_body F.mix func19 (by rfl) ntmps19 ?_
  refine k_region rfl ?_
  iterate 6 refine a_op ?_
  refine s_nil (r_false ?_)
  refine ⟨.inl rfl, a_ret [(.p 0, .p 0), (.p 1, .p 1)] (by rw [results19]) ?_ ?_ ?_⟩ <;> simp [-List.map_set, -List.map_replicate, -List.reduceReplicate, -List.map_map, -List.map_drop, -List.map_take, num, bol, txt, w8, w16, w32, w64, lst, cls, rowO, boxO, List.take_of_length_le]

end Go.Proofs.Tryd
