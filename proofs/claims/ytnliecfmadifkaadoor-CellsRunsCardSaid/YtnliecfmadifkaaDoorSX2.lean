/- Contracts of this program's functions. -/
import Derived.Test.YtnliecfmadifkaaDoorSX1
set_option maxHeartbeats 4000000
set_option maxRecDepth 100000
set_option linter.unusedVariables false
set_option linter.unusedSimpArgs false
namespace Go.Proofs.Tryd
open Go Go.Ot
attribute [local irreducible] wpK wpS seqK blockK loopF regK meetK OpSpec Le nowF fallF
theorem rwr_dnN (Γ : Gl) (s : St4) (lf : Int) (i : Int) (x : List UInt8)  : Go.Ot.Good Γ prog 16 [.ptr (.p 0) 0, .t (num i), .t (txt x)] [boxO 52 [.t (txt (s 0)), .t (txt (s 1)), .t (txt (s 2)), .t (txt (s 3)), .t (.v (.slice none 0 0)), .t (num (lf)), .t (bol (true))]] (.t (num 13)) [some (boxO 52 [.t (txt (s 0)), .t (txt (s 1)), .t (txt (s 2)), .t (txt (s 3)), .t (.v (.slice none 0 0)), .t (num (lf)), .t (bol (true))])] [] := by
  refine a_body F.mix func16 (by rfl) ntmps16 ?_
  refine k_seq ?_
  refine k_region rfl ?_
  refine a_op ?_
  refine s_nil (r_false ?_)
  refine q_next ?_
  refine k_seq ?_
  refine k_block ?_
  refine k_seq ?_
  refine k_region rfl ?_
  iterate 5 refine a_op ?_
  refine s_nil (r_false ?_)
  refine q_next ?_
  refine a_true ?_
  refine k_seq ?_
  refine k_region rfl ?_
  refine a_op ?_
  refine s_nil (r_false ?_)
  refine q_next ?_
  refine k_ret ?_
  refine q_block_ret (q_seq_ret ?_)
  refine ⟨.inr rfl, a_ret [(.p 0, .p 0)] (by rw [results16]) ?_ ?_ ?_⟩ <;> simp [-List.map_set, -List.map_replicate, -List.reduceReplicate, -List.map_map, -List.map_drop, -List.map_take, num, bol, txt, w8, w16, w32, w64, lst, cls, rowO, boxO, List.take_of_length_le]

theorem rwr_argN (Γ : Gl) (s : St4) (lf : Int) (i : Int) (x : List UInt8) (h : i < 0 ∨ 4 ≤ i) : Go.Ot.Good Γ prog 16 [.ptr (.p 0) 0, .t (num i), .t (txt x)] [boxO 52 [.t (txt (s 0)), .t (txt (s 1)), .t (txt (s 2)), .t (txt (s 3)), .t (.v (.slice none 0 0)), .t (num (lf)), .t (bol (false))]] (.t (num 1)) [some (boxO 52 [.t (txt (s 0)), .t (txt (s 1)), .t (txt (s 2)), .t (txt (s 3)), .t (.v (.slice none 0 0)), .t (num (lf)), .t (bol (false))])] [] := by
  refine a_body F.mix func16 (by rfl) ntmps16 ?_
  refine k_seq ?_
  refine k_region rfl ?_
  refine a_op ?_
  refine s_nil (r_false ?_)
  refine q_next ?_
  refine k_seq ?_
  refine k_block ?_
  refine k_seq ?_
  refine k_region rfl ?_
  iterate 5 refine a_op ?_
  refine s_nil (r_false ?_)
  refine q_next ?_
  refine a_false ?_
  refine k_seq ?_
  refine k_region rfl ?_
  rcases h with h | h
  · skip
    iterate 3 refine a_op ?_
    refine a_no ?_
    refine a_no ?_
    refine a_op ?_
    refine a_op ?_
    refine s_nil (r_false ?_)
    refine q_next ?_
    refine a_true ?_
    refine k_seq ?_
    refine k_region rfl ?_
    refine a_op ?_
    refine s_nil (r_false ?_)
    refine q_next ?_
    refine k_ret ?_
    refine q_block_ret (q_seq_ret ?_)
    refine ⟨.inr rfl, a_ret [(.p 0, .p 0)] (by rw [results16]) ?_ ?_ ?_⟩ <;> simp [-List.map_set, -List.map_replicate, -List.reduceReplicate, -List.map_map, -List.map_drop, -List.map_take, num, bol, txt, w8, w16, w32, w64, lst, cls, rowO, boxO, List.take_of_length_le]
  · skip
    iterate 3 refine a_op ?_
    refine a_go ?_
    refine a_go ?_
    refine a_op ?_
    refine a_op ?_
    refine s_nil (r_false ?_)
    refine q_next ?_
    refine a_true ?_
    refine k_seq ?_
    refine k_region rfl ?_
    refine a_op ?_
    refine s_nil (r_false ?_)
    refine q_next ?_
    refine k_ret ?_
    refine q_block_ret (q_seq_ret ?_)
    refine ⟨.inr rfl, a_ret [(.p 0, .p 0)] (by rw [results16]) ?_ ?_ ?_⟩ <;> simp [-List.map_set, -List.map_replicate, -List.reduceReplicate, -List.map_map, -List.map_drop, -List.map_take, num, bol, txt, w8, w16, w32, w64, lst, cls, rowO, boxO, List.take_of_length_le]

theorem rwr_lastN (Γ : Gl) (s : St4) (i : Int) (x : List UInt8) (h2 : 0 ≤ i) (h3 : i < 4) : Go.Ot.Good Γ prog 16 [.ptr (.p 0) 0, .t (num i), .t (txt x)] [boxO 52 [.t (txt (s 0)), .t (txt (s 1)), .t (txt (s 2)), .t (txt (s 3)), .t (.v (.slice none 0 0)), .t (num (1)), .t (bol (false))]] (.t (num 13)) [some (boxO 52 [.t (txt (s 0)), .t (txt (s 1)), .t (txt (s 2)), .t (txt (s 3)), .t (.v (.slice none 0 0)), .t (num (0)), .t (bol (true))])] [] := by
  refine a_body F.mix func16 (by rfl) ntmps16 ?_
  refine k_seq ?_
  refine k_region rfl ?_
  refine a_op ?_
  refine s_nil (r_false ?_)
  refine q_next ?_
  refine k_seq ?_
  refine k_block ?_
  refine k_seq ?_
  refine k_region rfl ?_
  iterate 5 refine a_op ?_
  refine s_nil (r_false ?_)
  refine q_next ?_
  refine a_false ?_
  refine k_seq ?_
  refine k_region rfl ?_
  iterate 3 refine a_op ?_
  refine a_go ?_
  refine a_go ?_
  refine a_op ?_
  refine a_op ?_
  refine s_nil (r_false ?_)
  refine q_next ?_
  refine a_false ?_
  refine k_seq ?_
  refine k_region rfl ?_
  refine a_op ?_
  refine a_callp [.p 0] [] [] false (cnt_lastN Γ s ) ?_
  refine a_op ?_
  refine a_op ?_
  refine s_nil (r_false ?_)
  refine q_next ?_
  refine a_true ?_
  refine k_seq ?_
  refine k_region rfl ?_
  refine a_op ?_
  refine s_nil (r_false ?_)
  refine q_next ?_
  refine k_ret ?_
  refine q_block_ret (q_seq_ret ?_)
  refine ⟨.inr rfl, a_ret [(.p 0, .p 0)] (by rw [results16]) ?_ ?_ ?_⟩ <;> simp [-List.map_set, -List.map_replicate, -List.reduceReplicate, -List.map_map, -List.map_drop, -List.map_take, num, bol, txt, w8, w16, w32, w64, lst, cls, rowO, boxO, List.take_of_length_le]

theorem rwr_okN (Γ : Gl) (s : St4) (lf : Int) (h0 : 0 ≤ lf) (h1 : lf ≤ 9223372036854775807) (h : lf ≠ 1) (i : Nat) (x : List UInt8) (hi : i < 4) : Go.Ot.Good Γ prog 16 [.ptr (.p 0) 0, .t (num i), .t (txt x)] [boxO 52 [.t (txt (s 0)), .t (txt (s 1)), .t (txt (s 2)), .t (txt (s 3)), .t (.v (.slice none 0 0)), .t (num (lf)), .t (bol (false))]] (.t (num 0)) [some (boxO 52 [.t (txt (s 0)), .t (txt (s 1)), .t (txt (s 2)), .t (txt (s 3)), .msl (.n 0) 0 1 2, .t (num (max 0 (lf - 1))), .t (bol (false))])] [⟨(chL [(i, x)]).map D.t, 67, true, true⟩] := by
  refine a_body F.mix func16 (by rfl) ntmps16 ?_
  refine k_seq ?_
  refine k_region rfl ?_
  refine a_op ?_
  refine s_nil (r_false ?_)
  refine q_next ?_
  refine k_seq ?_
  refine k_block ?_
  refine k_seq ?_
  refine k_region rfl ?_
  iterate 5 refine a_op ?_
  refine s_nil (r_false ?_)
  refine q_next ?_
  refine a_false ?_
  refine k_seq ?_
  refine k_region rfl ?_
  iterate 3 refine a_op ?_
  refine a_go ?_
  refine a_go ?_
  refine a_op ?_
  refine a_op ?_
  refine s_nil (r_false ?_)
  refine q_next ?_
  refine a_false ?_
  refine k_seq ?_
  refine k_region rfl ?_
  refine a_op ?_
  refine a_callp [.p 0] [] [] false (cnt_okN Γ s lf h0 h1 h) ?_
  refine a_op ?_
  refine a_op ?_
  refine s_nil (r_false ?_)
  refine q_next ?_
  refine a_false ?_
  refine k_skip ?_
  refine q_block (q_next ?_)
  refine k_seq ?_
  refine k_region rfl ?_
  iterate 13 refine a_op ?_
  refine s_nil (r_false ?_)
  refine q_next ?_
  refine k_seq ?_
  refine k_region rfl ?_
  refine a_op ?_
  refine s_nil (r_false ?_)
  refine q_next ?_
  refine k_ret ?_
  refine ⟨.inr rfl, a_ret [(.p 0, .p 0), (.n 0, .r 7 9 0)] (by rw [results16]) ?_ ?_ ?_⟩ <;> simp [-List.map_set, -List.map_replicate, -List.reduceReplicate, -List.map_map, -List.map_drop, -List.map_take, num, bol, txt, w8, w16, w32, w64, lst, cls, rowO, boxO, List.take_of_length_le, chL_app, chL]

theorem rsy_dnN (Γ : Gl) (s : St4) (lf : Int) : Go.Ot.Good Γ prog 17 [.ptr (.p 0) 0] [boxO 52 [.t (txt (s 0)), .t (txt (s 1)), .t (txt (s 2)), .t (txt (s 3)), .t (.v (.slice none 0 0)), .t (num (lf)), .t (bol (true))]] (.t (num 13)) [some (boxO 52 [.t (txt (s 0)), .t (txt (s 1)), .t (txt (s 2)), .t (txt (s 3)), .t (.v (.slice none 0 0)), .t (num (lf)), .t (bol (true))])] [] := by
  refine a_body F.mix func17 (by rfl) ntmps17 ?_
  refine k_seq ?_
  refine k_region rfl ?_
  refine a_op ?_
  refine s_nil (r_false ?_)
  refine q_next ?_
  refine k_seq ?_
  refine k_seq ?_
  refine k_region rfl ?_
  iterate 5 refine a_op ?_
  refine a_no ?_
  refine a_no ?_
  refine a_no ?_
  refine a_op ?_
  refine s_nil (r_false ?_)
  refine q_next ?_
  refine a_true ?_
  refine k_seq ?_
  refine k_region rfl ?_
  refine a_op ?_
  refine s_nil (r_false ?_)
  refine q_next ?_
  refine k_ret ?_
  refine q_seq_ret ?_
  refine ⟨.inr rfl, a_ret [(.p 0, .p 0)] (by rw [results17]) ?_ ?_ ?_⟩ <;> simp [-List.map_set, -List.map_replicate, -List.reduceReplicate, -List.map_map, -List.map_drop, -List.map_take, num, bol, txt, w8, w16, w32, w64, lst, cls, rowO, boxO, List.take_of_length_le]

theorem rsy_lastN (Γ : Gl) (s : St4)  : Go.Ot.Good Γ prog 17 [.ptr (.p 0) 0] [boxO 52 [.t (txt (s 0)), .t (txt (s 1)), .t (txt (s 2)), .t (txt (s 3)), .t (.v (.slice none 0 0)), .t (num (1)), .t (bol (false))]] (.t (num 13)) [some (boxO 52 [.t (txt (s 0)), .t (txt (s 1)), .t (txt (s 2)), .t (txt (s 3)), .t (.v (.slice none 0 0)), .t (num (0)), .t (bol (true))])] [] := by
  refine a_body F.mix func17 (by rfl) ntmps17 ?_
  refine k_seq ?_
  refine k_region rfl ?_
  refine a_op ?_
  refine s_nil (r_false ?_)
  refine q_next ?_
  refine k_seq ?_
  refine k_seq ?_
  refine k_region rfl ?_
  iterate 5 refine a_op ?_
  refine a_go ?_
  refine a_callpgo [.p 0] [] [] false (cnt_lastN Γ s ) ?_
  refine a_go ?_
  refine a_op ?_
  refine s_nil (r_false ?_)
  refine q_next ?_
  refine a_true ?_
  refine k_seq ?_
  refine k_region rfl ?_
  refine a_op ?_
  refine s_nil (r_false ?_)
  refine q_next ?_
  refine k_ret ?_
  refine q_seq_ret ?_
  refine ⟨.inr rfl, a_ret [(.p 0, .p 0)] (by rw [results17]) ?_ ?_ ?_⟩ <;> simp [-List.map_set, -List.map_replicate, -List.reduceReplicate, -List.map_map, -List.map_drop, -List.map_take, num, bol, txt, w8, w16, w32, w64, lst, cls, rowO, boxO, List.take_of_length_le]

theorem rsy_okN (Γ : Gl) (s : St4) (lf : Int) (h0 : 0 ≤ lf) (h1 : lf ≤ 9223372036854775807) (h : lf ≠ 1) : Go.Ot.Good Γ prog 17 [.ptr (.p 0) 0] [boxO 52 [.t (txt (s 0)), .t (txt (s 1)), .t (txt (s 2)), .t (txt (s 3)), .t (.v (.slice none 0 0)), .t (num (lf)), .t (bol (false))]] (.t (num 0)) [some (boxO 52 [.t (txt ((s) 0)), .t (txt ((s) 1)), .t (txt ((s) 2)), .t (txt ((s) 3)), .t (.v (.slice none 0 0)), .t (num (max 0 (lf - 1))), .t (bol (false))])] [] := by
  refine a_body F.mix func17 (by rfl) ntmps17 ?_
  refine k_seq ?_
  refine k_region rfl ?_
  refine a_op ?_
  refine s_nil (r_false ?_)
  refine q_next ?_
  refine k_seq ?_
  refine k_seq ?_
  refine k_region rfl ?_
  iterate 5 refine a_op ?_
  refine a_go ?_
  refine a_callpgo [.p 0] [] [] false (cnt_okN Γ s lf h0 h1 h) ?_
  refine a_go ?_
  refine a_op ?_
  refine s_nil (r_false ?_)
  refine q_next ?_
  refine a_false ?_
  refine k_skip ?_
  refine q_next ?_
  refine k_seq ?_
  refine k_seq ?_
  refine k_region rfl ?_
  refine a_op ?_
  refine s_nil (r_false ?_)
  refine q_next ?_
  refine k_block ?_
  refine k_loopF (fun sl L (k : Nat) => ⟨setAll (setBad sl [4, 5, 6, 7, 8, 9, 10, 11, 12, 13, 14, 15, 16, 17, 18, 19, 20, 21, 22, 23, 24, 25, 26, 27, 28, 29, 30, 31, 32, 33, 34, 35, 36, 37, 38, 39, 40, 41]) [(3, .t (num k))], Go.Ot.look (putL (.p 0) (boxO 52 [.t (txt (s 0)), .t (txt (s 1)), .t (txt (s 2)), .t (txt (s 3)), .t (.v (.slice none 0 0)), .t (num (max 0 (lf - 1))), .t (bol (false))]) L)⟩) (fun k => k ≤ 0) (fun k => 0 - k) (0) (a_le ?_) ?_ ?_
  · refine le_same ?_ ?_ ?_ <;> simp [-List.map_set, -List.map_replicate, -List.reduceReplicate, -List.map_map, -List.map_drop, -List.map_take, num, bol, txt, w8, w16, w32, w64, lst, cls, rowO, boxO, List.take_of_length_le, List.take_zero, nowF_nil]
  · (first | omega | simp)
  · intro k hk
    refine a_st ?_
    refine k_seq ?_
    refine k_seq ?_
    refine k_region rfl ?_
    iterate 7 refine a_op ?_
    refine s_nil (r_false ?_)
    refine q_next ?_
    refine a_false ?_
    refine k_exit ?_
    refine q_seq_exit (q_loopF_exit (q_block_exit (q_next ?_)))
    refine k_seq ?_
    refine k_region rfl ?_
    iterate 4 refine a_op ?_
    refine s_nil (r_false ?_)
    refine q_next ?_
    refine k_seq ?_
    refine k_region rfl ?_
    refine a_op ?_
    refine s_nil (r_false ?_)
    refine q_next ?_
    refine k_ret ?_
    refine ⟨.inr rfl, a_ret [(.p 0, .p 0)] (by rw [results17]) ?_ ?_ ?_⟩ <;> simp [-List.map_set, -List.map_replicate, -List.reduceReplicate, -List.map_map, -List.map_drop, -List.map_take, num, bol, txt, w8, w16, w32, w64, lst, cls, rowO, boxO, List.take_of_length_le]

theorem rfallN (Γ : Gl) (s : St4) (lf : Int) (off : Bool) (c : Int) (ks : List Bool) (hk : ks.length ≤ maxLen) : Go.Ot.Good Γ prog 20 [.ptr (.p 0) 0, .agg [.t (num c), .t (lst bol ks)]] [boxO 52 [.t (txt (s 0)), .t (txt (s 1)), .t (txt (s 2)), .t (txt (s 3)), .t (.v (.slice none 0 0)), .t (num (lf)), .t (bol (off))]] (.tup []) [some (boxO 52 [.t (txt (s 0)), .t (txt (s 1)), .t (txt (s 2)), .t (txt (s 3)), .t (.v (.slice none 0 0)), .t (num (max 0 c)), .t (bol (false))])] [] := by
  refine a_body F.mix func20 (by rfl) ntmps20 ?_
  refine k_seq ?_
  refine k_region rfl ?_
  refine a_op ?_
  refine s_nil (r_false ?_)
  refine q_next ?_
  refine k_seq ?_
  refine k_seq ?_
  refine k_region rfl ?_
  refine a_op ?_
  refine s_nil (r_false ?_)
  refine q_next ?_
  refine k_block ?_
  refine k_loopF (fun sl L (i : Nat) => ⟨setAll (setBad sl [1, 5, 6, 7, 8, 9, 10, 11, 12, 13, 14, 15, 16, 17, 18, 19, 20, 21, 22, 23, 24, 25, 26, 27, 28, 29, 30, 31, 32, 33, 34, 35, 36, 37, 38, 39, 40, 41, 42, 43, 44, 45, 46, 47, 48]) [(4, .t (num i))], Go.Ot.look (putL (.p 0) (boxO 52 [.t (txt (s 0)), .t (txt (s 1)), .t (txt (s 2)), .t (txt (s 3)), .t (.v (.slice none 0 0)), .t (num (lf)), .t (bol (off))]) L)⟩) (fun i => i ≤ 0) (fun i => 0 - i) (0) (a_le ?_) ?_ ?_
  · refine le_same ?_ ?_ ?_ <;> simp [-List.map_set, -List.map_replicate, -List.reduceReplicate, -List.map_map, -List.map_drop, -List.map_take, num, bol, txt, w8, w16, w32, w64, lst, cls, rowO, boxO, List.take_of_length_le, fallF]
  · (first | omega | simp)
  · intro i hi
    refine a_st ?_
    refine k_seq ?_
    refine k_seq ?_
    refine k_region rfl ?_
    iterate 7 refine a_op ?_
    refine s_nil (r_false ?_)
    refine q_next ?_
    refine a_false ?_
    refine k_exit ?_
    refine q_seq_exit (q_loopF_exit (q_block_exit (q_next ?_)))
    refine k_seq ?_
    refine k_region rfl ?_
    iterate 4 refine a_op ?_
    refine s_nil (r_false ?_)
    refine q_next ?_
    refine k_seq ?_
    refine k_region rfl ?_
    iterate 7 refine a_op ?_
    refine s_nil (r_false ?_)
    refine q_next ?_
    refine k_region rfl ?_
    iterate 4 refine a_op ?_
    refine s_nil (r_false ?_)
    refine ⟨.inl rfl, a_ret [(.p 0, .p 0)] (by rw [results20]) ?_ ?_ ?_⟩ <;> simp [-List.map_set, -List.map_replicate, -List.reduceReplicate, -List.map_map, -List.map_drop, -List.map_take, num, bol, txt, w8, w16, w32, w64, lst, cls, rowO, boxO, List.take_of_length_le]

theorem rwr_dnR (Γ : Gl) (s : St4) (l : Chs) (lf : Int) (i : Int) (x : List UInt8)  : Go.Ot.Good Γ prog 16 [.ptr (.p 0) 0, .t (num i), .t (txt x)] [boxO 52 [.t (txt (s 0)), .t (txt (s 1)), .t (txt (s 2)), .t (txt (s 3)), .msl (.p 1) 0 l.length 2, .t (num (lf)), .t (bol (true))], ⟨(chL l).map D.t, 67, true, true⟩] (.t (num 13)) [some (boxO 52 [.t (txt (s 0)), .t (txt (s 1)), .t (txt (s 2)), .t (txt (s 3)), .msl (.p 1) 0 l.length 2, .t (num (lf)), .t (bol (true))]), some ⟨(chL l).map D.t, 67, true, true⟩] [] := by
  refine a_body F.mix func16 (by rfl) ntmps16 ?_
  refine k_seq ?_
  refine k_region rfl ?_
  refine a_op ?_
  refine s_nil (r_false ?_)
  refine q_next ?_
  refine k_seq ?_
  refine k_block ?_
  refine k_seq ?_
  refine k_region rfl ?_
  iterate 5 refine a_op ?_
  refine s_nil (r_false ?_)
  refine q_next ?_
  refine a_true ?_
  refine k_seq ?_
  refine k_region rfl ?_
  refine a_op ?_
  refine s_nil (r_false ?_)
  refine q_next ?_
  refine k_ret ?_
  refine q_block_ret (q_seq_ret ?_)
  refine ⟨.inr rfl, a_ret [(.p 0, .p 0), (.p 1, .p 1)] (by rw [results16]) ?_ ?_ ?_⟩ <;> simp [-List.map_set, -List.map_replicate, -List.reduceReplicate, -List.map_map, -List.map_drop, -List.map_take, num, bol, txt, w8, w16, w32, w64, lst, cls, rowO, boxO, List.take_of_length_le]

theorem rwr_argR (Γ : Gl) (s : St4) (l : Chs) (lf : Int) (i : Int) (x : List UInt8) (h : i < 0 ∨ 4 ≤ i) : Go.Ot.Good Γ prog 16 [.ptr (.p 0) 0, .t (num i), .t (txt x)] [boxO 52 [.t (txt (s 0)), .t (txt (s 1)), .t (txt (s 2)), .t (txt (s 3)), .msl (.p 1) 0 l.length 2, .t (num (lf)), .t (bol (false))], ⟨(chL l).map D.t, 67, true, true⟩] (.t (num 1)) [some (boxO 52 [.t (txt (s 0)), .t (txt (s 1)), .t (txt (s 2)), .t (txt (s 3)), .msl (.p 1) 0 l.length 2, .t (num (lf)), .t (bol (false))]), some ⟨(chL l).map D.t, 67, true, true⟩] [] := by
  refine a_body F.mix func16 (by rfl) ntmps16 ?_
  refine k_seq ?_
  refine k_region rfl ?_
  refine a_op ?_
  refine s_nil (r_false ?_)
  refine q_next ?_
  refine k_seq ?_
  refine k_block ?_
  refine k_seq ?_
  refine k_region rfl ?_
  iterate 5 refine a_op ?_
  refine s_nil (r_false ?_)
  refine q_next ?_
  refine a_false ?_
  refine k_seq ?_
  refine k_region rfl ?_
  rcases h with h | h
  · skip
    iterate 3 refine a_op ?_
    refine a_no ?_
    refine a_no ?_
    refine a_op ?_
    refine a_op ?_
    refine s_nil (r_false ?_)
    refine q_next ?_
    refine a_true ?_
    refine k_seq ?_
    refine k_region rfl ?_
    refine a_op ?_
    refine s_nil (r_false ?_)
    refine q_next ?_
    refine k_ret ?_
    refine q_block_ret (q_seq_ret ?_)
    refine ⟨.inr rfl, a_ret [(.p 0, .p 0), (.p 1, .p 1)] (by rw [results16]) ?_ ?_ ?_⟩ <;> simp [-List.map_set, -List.map_replicate, -List.reduceReplicate, -List.map_map, -List.map_drop, -List.map_take, num, bol, txt, w8, w16, w32, w64, lst, cls, rowO, boxO, List.take_of_length_le]
  · skip
    iterate 3 refine a_op ?_
    refine a_go ?_
    refine a_go ?_
    refine a_op ?_
    refine a_op ?_
    refine s_nil (r_false ?_)
    refine q_next ?_
    refine a_true ?_
    refine k_seq ?_
    refine k_region rfl ?_
    refine a_op ?_
    refine s_nil (r_false ?_)
    refine q_next ?_
    refine k_ret ?_
    refine q_block_ret (q_seq_ret ?_)
    refine ⟨.inr rfl, a_ret [(.p 0, .p 0), (.p 1, .p 1)] (by rw [results16]) ?_ ?_ ?_⟩ <;> simp [-List.map_set, -List.map_replicate, -List.reduceReplicate, -List.map_map, -List.map_drop, -List.map_take, num, bol, txt, w8, w16, w32, w64, lst, cls, rowO, boxO, List.take_of_length_le]

theorem rwr_lastR (Γ : Gl) (s : St4) (l : Chs) (i : Int) (x : List UInt8) (h2 : 0 ≤ i) (h3 : i < 4) : Go.Ot.Good Γ prog 16 [.ptr (.p 0) 0, .t (num i), .t (txt x)] [boxO 52 [.t (txt (s 0)), .t (txt (s 1)), .t (txt (s 2)), .t (txt (s 3)), .msl (.p 1) 0 l.length 2, .t (num (1)), .t (bol (false))], ⟨(chL l).map D.t, 67, true, true⟩] (.t (num 13)) [some (boxO 52 [.t (txt (s 0)), .t (txt (s 1)), .t (txt (s 2)), .t (txt (s 3)), .msl (.p 1) 0 l.length 2, .t (num (0)), .t (bol (true))]), some ⟨(chL l).map D.t, 67, true, true⟩] [] := by
  refine a_body F.mix func16 (by rfl) ntmps16 ?_
  refine k_seq ?_
  refine k_region rfl ?_
  refine a_op ?_
  refine s_nil (r_false ?_)
  refine q_next ?_
  refine k_seq ?_
  refine k_block ?_
  refine k_seq ?_
  refine k_region rfl ?_
  iterate 5 refine a_op ?_
  refine s_nil (r_false ?_)
  refine q_next ?_
  refine a_false ?_
  refine k_seq ?_
  refine k_region rfl ?_
  iterate 3 refine a_op ?_
  refine a_go ?_
  refine a_go ?_
  refine a_op ?_
  refine a_op ?_
  refine s_nil (r_false ?_)
  refine q_next ?_
  refine a_false ?_
  refine k_seq ?_
  refine k_region rfl ?_
  refine a_op ?_
  refine a_callp [.p 0, .p 1] [] [.p 1] false (cnt_lastR Γ s l ) ?_
  refine a_op ?_
  refine a_op ?_
  refine s_nil (r_false ?_)
  refine q_next ?_
  refine a_true ?_
  refine k_seq ?_
  refine k_region rfl ?_
  refine a_op ?_
  refine s_nil (r_false ?_)
  refine q_next ?_
  refine k_ret ?_
  refine q_block_ret (q_seq_ret ?_)
  refine ⟨.inr rfl, a_ret [(.p 0, .p 0), (.p 1, .p 1)] (by rw [results16]) ?_ ?_ ?_⟩ <;> simp [-List.map_set, -List.map_replicate, -List.reduceReplicate, -List.map_map, -List.map_drop, -List.map_take, num, bol, txt, w8, w16, w32, w64, lst, cls, rowO, boxO, List.take_of_length_le]

theorem rwr_okR (Γ : Gl) (s : St4) (l : Chs) (hl : l.length ≤ 1000000) (lf : Int) (h0 : 0 ≤ lf) (h1 : lf ≤ 9223372036854775807) (h : lf ≠ 1) (i : Nat) (x : List UInt8) (hi : i < 4) : Go.Ot.Good Γ prog 16 [.ptr (.p 0) 0, .t (num i), .t (txt x)] [boxO 52 [.t (txt (s 0)), .t (txt (s 1)), .t (txt (s 2)), .t (txt (s 3)), .msl (.p 1) 0 l.length 2, .t (num (lf)), .t (bol (false))], ⟨(chL l).map D.t, 67, true, true⟩] (.t (num 0)) [some (boxO 52 [.t (txt (s 0)), .t (txt (s 1)), .t (txt (s 2)), .t (txt (s 3)), .msl (.p 1) 0 (l.length + 1) 2, .t (num (max 0 (lf - 1))), .t (bol (false))]), some ⟨(chL (l ++ [(i, x)])).map D.t, 67, true, true⟩] [] := by
  refine a_body F.mix func16 (by rfl) ntmps16 ?_
  refine k_seq ?_
  refine k_region rfl ?_
  refine a_op ?_
  refine s_nil (r_false ?_)
  refine q_next ?_
  refine k_seq ?_
  refine k_block ?_
  refine k_seq ?_
  refine k_region rfl ?_
  iterate 5 refine a_op ?_
  refine s_nil (r_false ?_)
  refine q_next ?_
  refine a_false ?_
  refine k_seq ?_
  refine k_region rfl ?_
  iterate 3 refine a_op ?_
  refine a_go ?_
  refine a_go ?_
  refine a_op ?_
  refine a_op ?_
  refine s_nil (r_false ?_)
  refine q_next ?_
  refine a_false ?_
  refine k_seq ?_
  refine k_region rfl ?_
  refine a_op ?_
  refine a_callp [.p 0, .p 1] [] [.p 1] false (cnt_okR Γ s l lf h0 h1 h) ?_
  refine a_op ?_
  refine a_op ?_
  refine s_nil (r_false ?_)
  refine q_next ?_
  refine a_false ?_
  refine k_skip ?_
  refine q_block (q_next ?_)
  refine k_seq ?_
  refine k_region rfl ?_
  iterate 13 refine a_op ?_
  refine s_nil (r_false ?_)
  refine q_next ?_
  refine k_seq ?_
  refine k_region rfl ?_
  refine a_op ?_
  refine s_nil (r_false ?_)
  refine q_next ?_
  refine k_ret ?_
  refine ⟨.inr rfl, a_ret [(.p 0, .p 0), (.p 1, .p 1)] (by rw [results16]) ?_ ?_ ?_⟩ <;> simp [-List.map_set, -List.map_replicate, -List.reduceReplicate, -List.map_map, -List.map_drop, -List.map_take, num, bol, txt, w8, w16, w32, w64, lst, cls, rowO, boxO, List.take_of_length_le, chL_app, chL]

theorem rsy_dnR (Γ : Gl) (s : St4) (l : Chs) (hl : l.length ≤ 1000000) (h4 : In4 l) (lf : Int) : Go.Ot.Good Γ prog 17 [.ptr (.p 0) 0] [boxO 52 [.t (txt (s 0)), .t (txt (s 1)), .t (txt (s 2)), .t (txt (s 3)), .msl (.p 1) 0 l.length 2, .t (num (lf)), .t (bol (true))], ⟨(chL l).map D.t, 67, true, true⟩] (.t (num 13)) [some (boxO 52 [.t (txt (s 0)), .t (txt (s 1)), .t (txt (s 2)), .t (txt (s 3)), .msl (.p 1) 0 l.length 2, .t (num (lf)), .t (bol (true))]), some ⟨(chL l).map D.t, 67, true, true⟩] [] := by
  refine a_body F.mix func17 (by rfl) ntmps17 ?_
  refine k_seq ?_
  refine k_region rfl ?_
  refine a_op ?_
  refine s_nil (r_false ?_)
  refine q_next ?_
  refine k_seq ?_
  refine k_seq ?_
  refine k_region rfl ?_
  iterate 5 refine a_op ?_
  refine a_no ?_
  refine a_no ?_
  refine a_no ?_
  refine a_op ?_
  refine s_nil (r_false ?_)
  refine q_next ?_
  refine a_true ?_
  refine k_seq ?_
  refine k_region rfl ?_
  refine a_op ?_
  refine s_nil (r_false ?_)
  refine q_next ?_
  refine k_ret ?_
  refine q_seq_ret ?_
  refine ⟨.inr rfl, a_ret [(.p 0, .p 0), (.p 1, .p 1)] (by rw [results17]) ?_ ?_ ?_⟩ <;> simp [-List.map_set, -List.map_replicate, -List.reduceReplicate, -List.map_map, -List.map_drop, -List.map_take, num, bol, txt, w8, w16, w32, w64, lst, cls, rowO, boxO, List.take_of_length_le]

theorem rsy_lastR (Γ : Gl) (s : St4) (l : Chs) (hl : l.length ≤ 1000000) (h4 : In4 l)  : Go.Ot.Good Γ prog 17 [.ptr (.p 0) 0] [boxO 52 [.t (txt (s 0)), .t (txt (s 1)), .t (txt (s 2)), .t (txt (s 3)), .msl (.p 1) 0 l.length 2, .t (num (1)), .t (bol (false))], ⟨(chL l).map D.t, 67, true, true⟩] (.t (num 13)) [some (boxO 52 [.t (txt (s 0)), .t (txt (s 1)), .t (txt (s 2)), .t (txt (s 3)), .msl (.p 1) 0 l.length 2, .t (num (0)), .t (bol (true))]), some ⟨(chL l).map D.t, 67, true, true⟩] [] := by
  refine a_body F.mix func17 (by rfl) ntmps17 ?_
  refine k_seq ?_
  refine k_region rfl ?_
  refine a_op ?_
  refine s_nil (r_false ?_)
  refine q_next ?_
  refine k_seq ?_
  refine k_seq ?_
  refine k_region rfl ?_
  iterate 5 refine a_op ?_
  refine a_go ?_
  refine a_callpgo [.p 0, .p 1] [] [.p 1] false (cnt_lastR Γ s l ) ?_
  refine a_go ?_
  refine a_op ?_
  refine s_nil (r_false ?_)
  refine q_next ?_
  refine a_true ?_
  refine k_seq ?_
  refine k_region rfl ?_
  refine a_op ?_
  refine s_nil (r_false ?_)
  refine q_next ?_
  refine k_ret ?_
  refine q_seq_ret ?_
  refine ⟨.inr rfl, a_ret [(.p 0, .p 0), (.p 1, .p 1)] (by rw [results17]) ?_ ?_ ?_⟩ <;> simp [-List.map_set, -List.map_replicate, -List.reduceReplicate, -List.map_map, -List.map_drop, -List.map_take, num, bol, txt, w8, w16, w32, w64, lst, cls, rowO, boxO, List.take_of_length_le]

theorem rsy_okR (Γ : Gl) (s : St4) (l : Chs) (hl : l.length ≤ 1000000) (h4 : In4 l) (lf : Int) (h0 : 0 ≤ lf) (h1 : lf ≤ 9223372036854775807) (h : lf ≠ 1) : Go.Ot.Good Γ prog 17 [.ptr (.p 0) 0] [boxO 52 [.t (txt (s 0)), .t (txt (s 1)), .t (txt (s 2)), .t (txt (s 3)), .msl (.p 1) 0 l.length 2, .t (num (lf)), .t (bol (false))], ⟨(chL l).map D.t, 67, true, true⟩] (.t (num 0)) [some (boxO 52 [.t (txt ((nowF s l) 0)), .t (txt ((nowF s l) 1)), .t (txt ((nowF s l) 2)), .t (txt ((nowF s l) 3)), .t (.v (.slice none 0 0)), .t (num (max 0 (lf - 1))), .t (bol (false))]), none] [] := by
  refine a_body F.mix func17 (by rfl) ntmps17 ?_
  refine k_seq ?_
  refine k_region rfl ?_
  refine a_op ?_
  refine s_nil (r_false ?_)
  refine q_next ?_
  refine k_seq ?_
  refine k_seq ?_
  refine k_region rfl ?_
  iterate 5 refine a_op ?_
  refine a_go ?_
  refine a_callpgo [.p 0, .p 1] [] [.p 1] false (cnt_okR Γ s l lf h0 h1 h) ?_
  refine a_go ?_
  refine a_op ?_
  refine s_nil (r_false ?_)
  refine q_next ?_
  refine a_false ?_
  refine k_skip ?_
  refine q_next ?_
  refine k_seq ?_
  refine k_seq ?_
  refine k_region rfl ?_
  refine a_op ?_
  refine s_nil (r_false ?_)
  refine q_next ?_
  refine k_block ?_
  refine k_loopF (fun sl L (k : Nat) => ⟨setAll (setBad sl [4, 5, 6, 7, 8, 9, 10, 11, 12, 13, 14, 15, 16, 17, 18, 19, 20, 21, 22, 23, 24, 25, 26, 27, 28, 29, 30, 31, 32, 33, 34, 35, 36, 37, 38, 39, 40, 41]) [(3, .t (num k))], Go.Ot.look (putL (.p 0) (boxO 52 [.t (txt ((nowF s (l.take k)) 0)), .t (txt ((nowF s (l.take k)) 1)), .t (txt ((nowF s (l.take k)) 2)), .t (txt ((nowF s (l.take k)) 3)), .msl (.p 1) 0 l.length 2, .t (num (max 0 (lf - 1))), .t (bol (false))]) L)⟩) (fun k => k ≤ l.length) (fun k => l.length - k) (0) (a_le ?_) ?_ ?_
  · refine le_same ?_ ?_ ?_ <;> simp [-List.map_set, -List.map_replicate, -List.reduceReplicate, -List.map_map, -List.map_drop, -List.map_take, num, bol, txt, w8, w16, w32, w64, lst, cls, rowO, boxO, List.take_of_length_le, List.take_zero, nowF_nil]
  · (first | omega | simp)
  · intro k hk
    refine a_st ?_
    refine k_seq ?_
    refine k_seq ?_
    refine k_region rfl ?_
    iterate 7 refine a_op ?_
    refine s_nil (r_false ?_)
    refine q_next ?_
    refine a_if (fun hc1 => ?_) (fun hc1 => ?_)
    · (try simp only [Bool.and_eq_true, Bool.or_eq_true, Bool.or_eq_false_iff, Bool.not_eq_true', Bool.not_eq_false', dec_t, dec_f, Bool.and_eq_false_imp, beq_iff_eq, beq_eq_false_iff_ne, ne_eq] at hc1)
      refine k_skip ?_
      refine q_next ?_
      refine k_seq ?_
      refine k_block ?_
      refine k_region rfl ?_
      obtain ⟨⟨xi, xs⟩, he⟩ : ∃ e, l.getD k default = e := ⟨_, rfl⟩
      have hn := nowF_snoc s l k (by omega)
      have hx := h4 k (by omega)
      rw [he] at hn hx
      simp only at hn hx
      rcases (show xi = 0 ∨ xi = 1 ∨ xi = 2 ∨ xi = 3 by omega) with rfl | rfl | rfl | rfl
      · skip
        iterate 9 refine a_opd ?_
        simp only [he]
        iterate 8 refine a_opd ?_
        simp only [he]
        iterate 4 refine a_opd ?_
        refine s_nil (r_true (by kernel_rfl) ?_)
        refine q_block (q_next ?_)
        refine k_region rfl ?_
        iterate 3 refine a_op ?_
        refine s_nil (r_false ?_)
        refine q_loopF (k + 1) (a_le ?_) ?_ ?_
        · refine le_same ?_ ?_ ?_ <;> simp [-List.map_set, -List.map_replicate, -List.reduceReplicate, -List.map_map, -List.map_drop, -List.map_take, num, bol, txt, w8, w16, w32, w64, lst, cls, rowO, boxO, List.take_of_length_le, hn, upd_00, upd_01, upd_02, upd_03, upd_10, upd_11, upd_12, upd_13, upd_20, upd_21, upd_22, upd_23, upd_30, upd_31, upd_32, upd_33]
        · (first | omega | (simp_all <;> omega))
        · (first | omega | (simp only []; omega))
      · skip
        iterate 9 refine a_opd ?_
        simp only [he]
        iterate 8 refine a_opd ?_
        simp only [he]
        iterate 4 refine a_opd ?_
        refine s_nil (r_true (by kernel_rfl) ?_)
        refine q_block (q_next ?_)
        refine k_region rfl ?_
        iterate 3 refine a_op ?_
        refine s_nil (r_false ?_)
        refine q_loopF (k + 1) (a_le ?_) ?_ ?_
        · refine le_same ?_ ?_ ?_ <;> simp [-List.map_set, -List.map_replicate, -List.reduceReplicate, -List.map_map, -List.map_drop, -List.map_take, num, bol, txt, w8, w16, w32, w64, lst, cls, rowO, boxO, List.take_of_length_le, hn, upd_00, upd_01, upd_02, upd_03, upd_10, upd_11, upd_12, upd_13, upd_20, upd_21, upd_22, upd_23, upd_30, upd_31, upd_32, upd_33]
        · (first | omega | (simp_all <;> omega))
        · (first | omega | (simp only []; omega))
      · skip
        iterate 9 refine a_opd ?_
        simp only [he]
        iterate 8 refine a_opd ?_
        simp only [he]
        iterate 4 refine a_opd ?_
        refine s_nil (r_true (by kernel_rfl) ?_)
        refine q_block (q_next ?_)
        refine k_region rfl ?_
        iterate 3 refine a_op ?_
        refine s_nil (r_false ?_)
        refine q_loopF (k + 1) (a_le ?_) ?_ ?_
        · refine le_same ?_ ?_ ?_ <;> simp [-List.map_set, -List.map_replicate, -List.reduceReplicate, -List.map_map, -List.map_drop, -List.map_take, num, bol, txt, w8, w16, w32, w64, lst, cls, rowO, boxO, List.take_of_length_le, hn, upd_00, upd_01, upd_02, upd_03, upd_10, upd_11, upd_12, upd_13, upd_20, upd_21, upd_22, upd_23, upd_30, upd_31, upd_32, upd_33]
        · (first | omega | (simp_all <;> omega))
        · (first | omega | (simp only []; omega))
      · skip
        iterate 9 refine a_opd ?_
        simp only [he]
        iterate 8 refine a_opd ?_
        simp only [he]
        iterate 4 refine a_opd ?_
        refine s_nil (r_true (by kernel_rfl) ?_)
        refine q_block (q_next ?_)
        refine k_region rfl ?_
        iterate 3 refine a_op ?_
        refine s_nil (r_false ?_)
        refine q_loopF (k + 1) (a_le ?_) ?_ ?_
        · refine le_same ?_ ?_ ?_ <;> simp [-List.map_set, -List.map_replicate, -List.reduceReplicate, -List.map_map, -List.map_drop, -List.map_take, num, bol, txt, w8, w16, w32, w64, lst, cls, rowO, boxO, List.take_of_length_le, hn, upd_00, upd_01, upd_02, upd_03, upd_10, upd_11, upd_12, upd_13, upd_20, upd_21, upd_22, upd_23, upd_30, upd_31, upd_32, upd_33]
        · (first | omega | (simp_all <;> omega))
        · (first | omega | (simp only []; omega))
    · (try simp only [Bool.and_eq_true, Bool.or_eq_true, Bool.or_eq_false_iff, Bool.not_eq_true', Bool.not_eq_false', dec_t, dec_f, Bool.and_eq_false_imp, beq_iff_eq, beq_eq_false_iff_ne, ne_eq] at hc1)
      obtain rfl : k = l.length := by omega
      simp only [List.take_length]
      refine k_exit ?_
      refine q_seq_exit (q_loopF_exit (q_block_exit (q_next ?_)))
      refine k_seq ?_
      refine k_region rfl ?_
      iterate 4 refine a_op ?_
      refine s_nil (r_false ?_)
      refine q_next ?_
      refine k_seq ?_
      refine k_region rfl ?_
      refine a_op ?_
      refine s_nil (r_false ?_)
      refine q_next ?_
      refine k_ret ?_
      refine ⟨.inr rfl, a_ret [(.p 0, .p 0)] (by rw [results17]) ?_ ?_ ?_⟩ <;> simp [-List.map_set, -List.map_replicate, -List.reduceReplicate, -List.map_map, -List.map_drop, -List.map_take, num, bol, txt, w8, w16, w32, w64, lst, cls, rowO, boxO, List.take_of_length_le]

theorem rfallR (Γ : Gl) (s : St4) (l : Chs) (hl : l.length ≤ 1000000) (h4 : In4 l) (lf : Int) (off : Bool) (c : Int) (ks : List Bool) (hk : ks.length ≤ maxLen) : Go.Ot.Good Γ prog 20 [.ptr (.p 0) 0, .agg [.t (num c), .t (lst bol ks)]] [boxO 52 [.t (txt (s 0)), .t (txt (s 1)), .t (txt (s 2)), .t (txt (s 3)), .msl (.p 1) 0 l.length 2, .t (num (lf)), .t (bol (off))], ⟨(chL l).map D.t, 67, true, true⟩] (.tup []) [some (boxO 52 [.t (txt ((fallF s l ks l.length) 0)), .t (txt ((fallF s l ks l.length) 1)), .t (txt ((fallF s l ks l.length) 2)), .t (txt ((fallF s l ks l.length) 3)), .t (.v (.slice none 0 0)), .t (num (max 0 c)), .t (bol (false))]), none] [] := by
  refine a_body F.mix func20 (by rfl) ntmps20 ?_
  refine k_seq ?_
  refine k_region rfl ?_
  refine a_op ?_
  refine s_nil (r_false ?_)
  refine q_next ?_
  refine k_seq ?_
  refine k_seq ?_
  refine k_region rfl ?_
  refine a_op ?_
  refine s_nil (r_false ?_)
  refine q_next ?_
  refine k_block ?_
  refine k_loopF (fun sl L (i : Nat) => ⟨setAll (setBad sl [1, 5, 6, 7, 8, 9, 10, 11, 12, 13, 14, 15, 16, 17, 18, 19, 20, 21, 22, 23, 24, 25, 26, 27, 28, 29, 30, 31, 32, 33, 34, 35, 36, 37, 38, 39, 40, 41, 42, 43, 44, 45, 46, 47, 48]) [(4, .t (num i))], Go.Ot.look (putL (.p 0) (boxO 52 [.t (txt ((fallF s l ks i) 0)), .t (txt ((fallF s l ks i) 1)), .t (txt ((fallF s l ks i) 2)), .t (txt ((fallF s l ks i) 3)), .msl (.p 1) 0 l.length 2, .t (num (lf)), .t (bol (off))]) L)⟩) (fun i => i ≤ l.length) (fun i => l.length - i) (0) (a_le ?_) ?_ ?_
  · refine le_same ?_ ?_ ?_ <;> simp [-List.map_set, -List.map_replicate, -List.reduceReplicate, -List.map_map, -List.map_drop, -List.map_take, num, bol, txt, w8, w16, w32, w64, lst, cls, rowO, boxO, List.take_of_length_le, fallF]
  · (first | omega | simp)
  · intro i hi
    refine a_st ?_
    refine k_seq ?_
    refine k_seq ?_
    refine k_region rfl ?_
    iterate 7 refine a_op ?_
    refine s_nil (r_false ?_)
    refine q_next ?_
    refine a_if (fun hc0 => ?_) (fun hc0 => ?_)
    · (try simp only [Bool.and_eq_true, Bool.or_eq_true, Bool.or_eq_false_iff, Bool.not_eq_true', Bool.not_eq_false', dec_t, dec_f, Bool.and_eq_false_imp, beq_iff_eq, beq_eq_false_iff_ne, ne_eq] at hc0)
      refine k_skip ?_
      refine q_next ?_
      refine k_seq ?_
      refine k_block ?_
      refine k_seq ?_
      refine k_region rfl ?_
      rcases Nat.eq_zero_or_pos ks.length with he | he
      · skip
        iterate 3 refine a_opd ?_
        have hF : fallF s l ks (i + 1) = fallF s l ks i := fallF_no (by omega)
        refine a_opd ?_
        refine a_opd ?_
        refine a_nod ?_
        refine a_nod ?_
        refine a_nod ?_
        refine a_nod ?_
        refine a_nod ?_
        refine a_nod ?_
        refine a_nod ?_
        refine a_nod ?_
        refine a_nod ?_
        refine a_opd ?_
        refine s_nil (r_true (by kernel_rfl) ?_)
        refine q_next ?_
        refine a_false ?_
        refine k_skip ?_
        refine q_block (q_next ?_)
        refine k_region rfl ?_
        iterate 3 refine a_op ?_
        refine s_nil (r_false ?_)
        refine q_loopF (i + 1) (a_le ?_) ?_ ?_
        · refine le_same ?_ ?_ ?_ <;> simp [-List.map_set, -List.map_replicate, -List.reduceReplicate, -List.map_map, -List.map_drop, -List.map_take, num, bol, txt, w8, w16, w32, w64, lst, cls, rowO, boxO, List.take_of_length_le, hF, upd_00, upd_01, upd_02, upd_03, upd_10, upd_11, upd_12, upd_13, upd_20, upd_21, upd_22, upd_23, upd_30, upd_31, upd_32, upd_33]
        · (first | omega | (simp_all <;> omega))
        · (first | omega | (simp only []; omega))
      · skip
        iterate 3 refine a_opd ?_
        obtain ⟨m, hm, hml, hme⟩ := mod_nat i ks.length he
        refine a_opd ?_
        refine a_opd ?_
        refine a_god ?_
        refine a_god ?_
        refine a_god ?_
        refine a_god ?_
        refine a_god ?_
        refine a_god ?_
        refine a_god (hs := by (simp (disch := omega) only [push_cast, hm] <;> rfl)) ?_
        refine a_god ?_
        refine a_god ?_
        refine a_opd ?_
        refine s_nil (r_true (by kernel_rfl) ?_)
        refine q_next ?_
        refine a_if (fun hc1 => ?_) (fun hc1 => ?_)
        · (try simp only [Bool.and_eq_true, Bool.or_eq_true, Bool.or_eq_false_iff, Bool.not_eq_true', Bool.not_eq_false', dec_t, dec_f, Bool.and_eq_false_imp, beq_iff_eq, beq_eq_false_iff_ne, ne_eq] at hc1)
          have hF : fallF s l ks (i + 1) = _ := fallF_yes (by omega) (by rw [← hme]; exact hc1)
          refine k_region rfl ?_
          obtain ⟨⟨xi, xs⟩, he⟩ : ∃ e, l.getD i default = e := ⟨_, rfl⟩
          have hx := h4 i (by omega)
          rw [he] at hF hx
          simp only at hF hx
          rcases (show xi = 0 ∨ xi = 1 ∨ xi = 2 ∨ xi = 3 by omega) with rfl | rfl | rfl | rfl
          · skip
            iterate 9 refine a_opd ?_
            simp only [he]
            iterate 8 refine a_opd ?_
            simp only [he]
            iterate 4 refine a_opd ?_
            refine s_nil (r_true (by kernel_rfl) ?_)
            refine q_block (q_next ?_)
            refine k_region rfl ?_
            iterate 3 refine a_op ?_
            refine s_nil (r_false ?_)
            refine q_loopF (i + 1) (a_le ?_) ?_ ?_
            · refine le_same ?_ ?_ ?_ <;> simp [-List.map_set, -List.map_replicate, -List.reduceReplicate, -List.map_map, -List.map_drop, -List.map_take, num, bol, txt, w8, w16, w32, w64, lst, cls, rowO, boxO, List.take_of_length_le, hF, upd_00, upd_01, upd_02, upd_03, upd_10, upd_11, upd_12, upd_13, upd_20, upd_21, upd_22, upd_23, upd_30, upd_31, upd_32, upd_33]
            · (first | omega | (simp_all <;> omega))
            · (first | omega | (simp only []; omega))
          · skip
            iterate 9 refine a_opd ?_
            simp only [he]
            iterate 8 refine a_opd ?_
            simp only [he]
            iterate 4 refine a_opd ?_
            refine s_nil (r_true (by kernel_rfl) ?_)
            refine q_block (q_next ?_)
            refine k_region rfl ?_
            iterate 3 refine a_op ?_
            refine s_nil (r_false ?_)
            refine q_loopF (i + 1) (a_le ?_) ?_ ?_
            · refine le_same ?_ ?_ ?_ <;> simp [-List.map_set, -List.map_replicate, -List.reduceReplicate, -List.map_map, -List.map_drop, -List.map_take, num, bol, txt, w8, w16, w32, w64, lst, cls, rowO, boxO, List.take_of_length_le, hF, upd_00, upd_01, upd_02, upd_03, upd_10, upd_11, upd_12, upd_13, upd_20, upd_21, upd_22, upd_23, upd_30, upd_31, upd_32, upd_33]
            · (first | omega | (simp_all <;> omega))
            · (first | omega | (simp only []; omega))
          · skip
            iterate 9 refine a_opd ?_
            simp only [he]
            iterate 8 refine a_opd ?_
            simp only [he]
            iterate 4 refine a_opd ?_
            refine s_nil (r_true (by kernel_rfl) ?_)
            refine q_block (q_next ?_)
            refine k_region rfl ?_
            iterate 3 refine a_op ?_
            refine s_nil (r_false ?_)
            refine q_loopF (i + 1) (a_le ?_) ?_ ?_
            · refine le_same ?_ ?_ ?_ <;> simp [-List.map_set, -List.map_replicate, -List.reduceReplicate, -List.map_map, -List.map_drop, -List.map_take, num, bol, txt, w8, w16, w32, w64, lst, cls, rowO, boxO, List.take_of_length_le, hF, upd_00, upd_01, upd_02, upd_03, upd_10, upd_11, upd_12, upd_13, upd_20, upd_21, upd_22, upd_23, upd_30, upd_31, upd_32, upd_33]
            · (first | omega | (simp_all <;> omega))
            · (first | omega | (simp only []; omega))
          · skip
            iterate 9 refine a_opd ?_
            simp only [he]
            iterate 8 refine a_opd ?_
            simp only [he]
            iterate 4 refine a_opd ?_
            refine s_nil (r_true (by kernel_rfl) ?_)
            refine q_block (q_next ?_)
            refine k_region rfl ?_
            iterate 3 refine a_op ?_
            refine s_nil (r_false ?_)
            refine q_loopF (i + 1) (a_le ?_) ?_ ?_
            · refine le_same ?_ ?_ ?_ <;> simp [-List.map_set, -List.map_replicate, -List.reduceReplicate, -List.map_map, -List.map_drop, -List.map_take, num, bol, txt, w8, w16, w32, w64, lst, cls, rowO, boxO, List.take_of_length_le, hF, upd_00, upd_01, upd_02, upd_03, upd_10, upd_11, upd_12, upd_13, upd_20, upd_21, upd_22, upd_23, upd_30, upd_31, upd_32, upd_33]
            · (first | omega | (simp_all <;> omega))
            · (first | omega | (simp only []; omega))
        · (try simp only [Bool.and_eq_true, Bool.or_eq_true, Bool.or_eq_false_iff, Bool.not_eq_true', Bool.not_eq_false', dec_t, dec_f, Bool.and_eq_false_imp, beq_iff_eq, beq_eq_false_iff_ne, ne_eq] at hc1)
          have hF : fallF s l ks (i + 1) = fallF s l ks i := fallF_no (by rintro ⟨_, h⟩; rw [← hme, show (default : Bool) = false from rfl, hc1] at h; cases h)
          refine k_skip ?_
          refine q_block (q_next ?_)
          refine k_region rfl ?_
          iterate 3 refine a_op ?_
          refine s_nil (r_false ?_)
          refine q_loopF (i + 1) (a_le ?_) ?_ ?_
          · refine le_same ?_ ?_ ?_ <;> simp [-List.map_set, -List.map_replicate, -List.reduceReplicate, -List.map_map, -List.map_drop, -List.map_take, num, bol, txt, w8, w16, w32, w64, lst, cls, rowO, boxO, List.take_of_length_le, hF, upd_00, upd_01, upd_02, upd_03, upd_10, upd_11, upd_12, upd_13, upd_20, upd_21, upd_22, upd_23, upd_30, upd_31, upd_32, upd_33]
          · (first | omega | (simp_all <;> omega))
          · (first | omega | (simp only []; omega))
    · (try simp only [Bool.and_eq_true, Bool.or_eq_true, Bool.or_eq_false_iff, Bool.not_eq_true', Bool.not_eq_false', dec_t, dec_f, Bool.and_eq_false_imp, beq_iff_eq, beq_eq_false_iff_ne, ne_eq] at hc0)
      obtain rfl : i = l.length := by omega
      refine k_exit ?_
      refine q_seq_exit (q_loopF_exit (q_block_exit (q_next ?_)))
      refine k_seq ?_
      refine k_region rfl ?_
      iterate 4 refine a_op ?_
      refine s_nil (r_false ?_)
      refine q_next ?_
      refine k_seq ?_
      refine k_region rfl ?_
      iterate 7 refine a_op ?_
      refine s_nil (r_false ?_)
      refine q_next ?_
      refine k_region rfl ?_
      iterate 4 refine a_op ?_
      refine s_nil (r_false ?_)
      refine ⟨.inl rfl, a_ret [(.p 0, .p 0)] (by rw [results20]) ?_ ?_ ?_⟩ <;> simp [-List.map_set, -List.map_replicate, -List.reduceReplicate, -List.map_map, -List.map_drop, -List.map_take, num, bol, txt, w8, w16, w32, w64, lst, cls, rowO, boxO, List.take_of_length_le]

end Go.Proofs.Tryd
