/- Contracts of this program's functions. -/
import Derived.Test.YtkbikblijipceaaGreatDoorSRL1
import Derived.Test.YtkbikblijipceaaGreatDoorSQ1
import Derived.Test.YtkbikblijipceaaGreatDoorSVAs
import Derived.Test.YtkbikblijipceaaGreatDoorOtE
set_option maxHeartbeats 4000000
set_option maxRecDepth 100000
set_option linter.unusedVariables false
set_option linter.unusedSimpArgs false
namespace Go.Proofs.Tryz
open Go Go.Ot

def snL (r : Rl) : List (List UInt8) := if 0 < r.shares then [r.snap] else []
theorem snL_y {r : Rl} (h : 0 < r.shares) : snL r = [r.snap] := if_pos h
theorem snL_n {r : Rl} (h : ¬ 0 < r.shares) : snL r = [] := if_neg h
theorem snL_len (r : Rl) : (snL r).length ≤ 1 := by rw [snL]; split <;> simp
theorem tsz_sn {r : Rl} (h : r.snap.length ≤ 1000000) : tsz (snL r) ≤ 1000010 := by rw [snL]; split <;> simp [tsz] <;> omega
attribute [local irreducible] wpK wpS seqK blockK loopF regK meetK OpSpec Le rdS lpW rdW got mayS mayW putS putW nb u64 PutW GQ GP tsz wTs Rq.p Rp.p
theorem done_share (Γ : Gl) (r : Rl) (d n : Int) (hd : 0 ≤ d ∧ d < r.boxes.length) (hn : 0 ≤ n ∧ n ≤ 4503599627370496) (hsh : 0 ≤ r.shares ∧ r.shares ≤ 1000000) (b : List UInt8) : Go.Ot.Good Γ prog 38 [.ptr (.p 0) 0, .agg [.t (num 5), .t (num d), .t (num n), .t (txt b)], .ptr (.p 1) 0] [boxO 31 [.t (.sl r.boxes.length (r.boxes.flatMap mbT)), .t (lst txt r.log), .t (txt r.snap), .t (num r.shares), .t (lst num r.last)], boxO 44 [.t (num 5), .t (num 0), .t (num 0), .t (.v (.slice none 0 0))]] (.t (.v .nilIface)) [some (boxO 31 [.t (.sl r.boxes.length (r.boxes.flatMap mbT)), .t (lst txt r.log), .t (txt b), .t (num (r.shares + 1)), .t (lst num r.last)]), some (boxO 44 [.t (num 5), .t (num 0), .t (num (r.shares + 1)), .t (.v (.slice none 0 0))])] [] := by
 refine a_body F.mix func38 (by rfl) ntmps38 ?_
 refine k_seq ?_
 refine k_region rfl ?_
 refine a_op ?_
 refine a_op ?_
 refine s_nil (r_false ?_)
 refine q_next ?_
 refine k_seq ?_
 refine k_seq ?_
 refine k_region rfl ?_
 iterate 4 refine a_opd ?_
 refine a_god ?_
 refine a_god ?_
 refine a_god ?_
 refine a_god ?_
 refine a_god ?_
 refine a_god ?_
 refine a_god ?_
 refine a_god ?_
 refine a_opd ?_
 refine a_opd ?_
 refine a_god ?_
 refine a_god ?_
 refine a_callgod [] false (within_good Γ n hn.1 hn.2) ?_
 refine a_god ?_
 refine a_opd ?_
 refine s_nil (r_true (by kernel_rfl) ?_)
 refine q_next ?_
 refine a_false ?_
 refine k_skip ?_
 refine q_next ?_
 refine k_seq ?_
 refine k_seq ?_
 refine k_region rfl ?_
 refine a_op ?_
 refine a_op ?_
 refine s_nil (r_false ?_)
 refine q_next ?_
 refine k_block ?_
 refine k_seq ?_
 refine k_block ?_
 refine k_seq ?_
 refine k_block ?_
 refine k_seq ?_
 refine k_block ?_
 refine k_seq ?_
 refine k_block ?_
 refine k_seq ?_
 refine k_block ?_
 refine k_seq ?_
 refine k_block ?_
 refine k_seq ?_
 refine k_seq ?_
 refine k_seq ?_
 refine k_region rfl ?_
 refine a_op ?_
 refine a_op ?_
 refine s_nil (r_false ?_)
 refine q_next ?_
 refine a_false ?_
 refine k_skip ?_
 refine q_next ?_
 refine k_seq ?_
 refine k_seq ?_
 refine k_region rfl ?_
 refine a_op ?_
 refine a_op ?_
 refine s_nil (r_false ?_)
 refine q_next ?_
 refine a_false ?_
 refine k_skip ?_
 refine q_next ?_
 refine k_seq ?_
 refine k_seq ?_
 refine k_region rfl ?_
 refine a_op ?_
 refine a_op ?_
 refine s_nil (r_false ?_)
 refine q_next ?_
 refine a_false ?_
 refine k_skip ?_
 refine q_next ?_
 refine k_seq ?_
 refine k_seq ?_
 refine k_region rfl ?_
 refine a_op ?_
 refine a_op ?_
 refine s_nil (r_false ?_)
 refine q_next ?_
 refine a_false ?_
 refine k_skip ?_
 refine q_next ?_
 refine k_seq ?_
 refine k_seq ?_
 refine k_region rfl ?_
 refine a_op ?_
 refine a_op ?_
 refine s_nil (r_false ?_)
 refine q_next ?_
 refine a_true ?_
 refine k_exit ?_
 refine q_seq_exit (q_seq_exit (q_block_pass (by decide) (q_seq_exit (q_block_pass (by decide) (q_seq_exit (q_block_pass (by decide) (q_seq_exit (q_block_pass (by decide) (q_seq_exit (q_block_exit (q_next ?_)))))))))))
 refine k_seq ?_
 refine k_region rfl ?_
 iterate 6 refine a_op ?_
 refine s_nil (r_false ?_)
 refine q_next ?_
 refine k_region rfl ?_
 iterate 8 refine a_op ?_
 refine s_nil (r_false ?_)
 refine q_block (q_next ?_)
 refine k_seq ?_
 refine k_seq ?_
 refine k_region rfl ?_
 iterate 8 refine a_op ?_
 refine s_nil (r_false ?_)
 refine q_next ?_
 refine k_seq ?_
 refine k_seq ?_
 refine k_region rfl ?_
 iterate 4 refine a_op ?_
 refine a_no ?_
 refine a_no ?_
 refine a_no ?_
 refine a_no ?_
 refine a_no ?_
 refine a_op ?_
 refine s_nil (r_false ?_)
 refine q_next ?_
 refine a_false ?_
 refine k_skip ?_
 refine q_next ?_
 refine k_seq ?_
 refine k_region rfl ?_
 refine a_op ?_
 refine s_nil (r_false ?_)
 refine q_next ?_
 refine k_ret ?_
 refine q_seq_ret (q_block_ret (q_seq_ret ?_))
 refine ⟨.inr rfl, a_ret [(.p 0, .p 0), (.p 1, .p 1)] (by rw [results38]) ?_ ?_ ?_⟩ <;> simp [-List.map_set, -List.map_replicate, -List.reduceReplicate, -List.map_map, -List.map_drop, -List.map_take, num, bol, txt, w8, w16, w32, w64, lst, cls, rowO, boxO, List.take_of_length_le, Wr.cellsL_len, wA, Wr.k_mk, Wr.n_mk, Wr.s_mk, Wr.l_mk, Wr.cellsL, Wr.z_eq, mbT]

theorem done_snapy (Γ : Gl) (r : Rl) (d n : Int) (hd : 0 ≤ d ∧ d < r.boxes.length) (hn : 0 ≤ n ∧ n ≤ 4503599627370496) (hsh : 0 ≤ r.shares ∧ r.shares ≤ 1000000) (b : List UInt8) (hc : 0 < r.shares) : Go.Ot.Good Γ prog 38 [.ptr (.p 0) 0, .agg [.t (num 6), .t (num d), .t (num n), .t (txt b)], .ptr (.p 1) 0] [boxO 31 [.t (.sl r.boxes.length (r.boxes.flatMap mbT)), .t (lst txt r.log), .t (txt r.snap), .t (num r.shares), .t (lst num r.last)], boxO 44 [.t (num 6), .t (num 0), .t (num 0), .t (.v (.slice none 0 0))]] (.t (.v .nilIface)) [some (boxO 31 [.t (.sl r.boxes.length (r.boxes.flatMap mbT)), .t (lst txt r.log), .t (txt r.snap), .t (num r.shares), .t (lst num r.last)]), some (boxO 44 [.t (num 6), .t (num 0), .t (num r.shares), .t (lst txt [r.snap])])] [] := by
 refine a_body F.mix func38 (by rfl) ntmps38 ?_
 refine k_seq ?_
 refine k_region rfl ?_
 refine a_op ?_
 refine a_op ?_
 refine s_nil (r_false ?_)
 refine q_next ?_
 refine k_seq ?_
 refine k_seq ?_
 refine k_region rfl ?_
 iterate 4 refine a_opd ?_
 refine a_god ?_
 refine a_god ?_
 refine a_god ?_
 refine a_god ?_
 refine a_god ?_
 refine a_god ?_
 refine a_god ?_
 refine a_god ?_
 refine a_opd ?_
 refine a_opd ?_
 refine a_god ?_
 refine a_god ?_
 refine a_callgod [] false (within_good Γ n hn.1 hn.2) ?_
 refine a_god ?_
 refine a_opd ?_
 refine s_nil (r_true (by kernel_rfl) ?_)
 refine q_next ?_
 refine a_false ?_
 refine k_skip ?_
 refine q_next ?_
 refine k_seq ?_
 refine k_seq ?_
 refine k_region rfl ?_
 refine a_op ?_
 refine a_op ?_
 refine s_nil (r_false ?_)
 refine q_next ?_
 refine k_block ?_
 refine k_seq ?_
 refine k_block ?_
 refine k_seq ?_
 refine k_block ?_
 refine k_seq ?_
 refine k_block ?_
 refine k_seq ?_
 refine k_block ?_
 refine k_seq ?_
 refine k_block ?_
 refine k_seq ?_
 refine k_block ?_
 refine k_seq ?_
 refine k_seq ?_
 refine k_seq ?_
 refine k_region rfl ?_
 refine a_op ?_
 refine a_op ?_
 refine s_nil (r_false ?_)
 refine q_next ?_
 refine a_false ?_
 refine k_skip ?_
 refine q_next ?_
 refine k_seq ?_
 refine k_seq ?_
 refine k_region rfl ?_
 refine a_op ?_
 refine a_op ?_
 refine s_nil (r_false ?_)
 refine q_next ?_
 refine a_false ?_
 refine k_skip ?_
 refine q_next ?_
 refine k_seq ?_
 refine k_seq ?_
 refine k_region rfl ?_
 refine a_op ?_
 refine a_op ?_
 refine s_nil (r_false ?_)
 refine q_next ?_
 refine a_false ?_
 refine k_skip ?_
 refine q_next ?_
 refine k_seq ?_
 refine k_seq ?_
 refine k_region rfl ?_
 refine a_op ?_
 refine a_op ?_
 refine s_nil (r_false ?_)
 refine q_next ?_
 refine a_false ?_
 refine k_skip ?_
 refine q_next ?_
 refine k_seq ?_
 refine k_seq ?_
 refine k_region rfl ?_
 refine a_op ?_
 refine a_op ?_
 refine s_nil (r_false ?_)
 refine q_next ?_
 refine a_false ?_
 refine k_skip ?_
 refine q_next ?_
 refine k_seq ?_
 refine k_region rfl ?_
 refine a_op ?_
 refine a_op ?_
 refine s_nil (r_false ?_)
 refine q_next ?_
 refine a_true ?_
 refine k_exit ?_
 refine q_seq_exit (q_block_pass (by decide) (q_seq_exit (q_block_pass (by decide) (q_seq_exit (q_block_pass (by decide) (q_seq_exit (q_block_pass (by decide) (q_seq_exit (q_block_pass (by decide) (q_seq_exit (q_block_exit (q_next ?_))))))))))))
 refine k_seq ?_
 refine k_seq ?_
 refine k_region rfl ?_
 iterate 8 refine a_op ?_
 refine s_nil (r_false ?_)
 refine q_next ?_
 refine k_seq ?_
 refine k_seq ?_
 refine k_region rfl ?_
 iterate 4 refine a_op ?_
 refine a_go ?_
 refine a_go ?_
 refine a_go ?_
 refine a_go ?_
 refine a_go ?_
 refine a_op ?_
 refine s_nil (r_false ?_)
 refine q_next ?_
 refine a_true ?_
 refine k_region rfl ?_
 iterate 9 refine a_op ?_
 refine s_nil (r_false ?_)
 refine q_next ?_
 refine k_seq ?_
 refine k_region rfl ?_
 refine a_op ?_
 refine s_nil (r_false ?_)
 refine q_next ?_
 refine k_ret ?_
 refine q_seq_ret (q_block_ret (q_seq_ret ?_))
 refine ⟨.inr rfl, a_ret [(.p 0, .p 0), (.p 1, .p 1)] (by rw [results38]) ?_ ?_ ?_⟩ <;> simp [-List.map_set, -List.map_replicate, -List.reduceReplicate, -List.map_map, -List.map_drop, -List.map_take, num, bol, txt, w8, w16, w32, w64, lst, cls, rowO, boxO, List.take_of_length_le, Wr.cellsL_len, wA, Wr.k_mk, Wr.n_mk, Wr.s_mk, Wr.l_mk, Wr.cellsL, Wr.z_eq, mbT]

theorem done_snapn (Γ : Gl) (r : Rl) (d n : Int) (hd : 0 ≤ d ∧ d < r.boxes.length) (hn : 0 ≤ n ∧ n ≤ 4503599627370496) (hsh : 0 ≤ r.shares ∧ r.shares ≤ 1000000) (b : List UInt8) (hc : ¬ 0 < r.shares) : Go.Ot.Good Γ prog 38 [.ptr (.p 0) 0, .agg [.t (num 6), .t (num d), .t (num n), .t (txt b)], .ptr (.p 1) 0] [boxO 31 [.t (.sl r.boxes.length (r.boxes.flatMap mbT)), .t (lst txt r.log), .t (txt r.snap), .t (num r.shares), .t (lst num r.last)], boxO 44 [.t (num 6), .t (num 0), .t (num 0), .t (.v (.slice none 0 0))]] (.t (.v .nilIface)) [some (boxO 31 [.t (.sl r.boxes.length (r.boxes.flatMap mbT)), .t (lst txt r.log), .t (txt r.snap), .t (num r.shares), .t (lst num r.last)]), some (boxO 44 [.t (num 6), .t (num 0), .t (num r.shares), .t (lst txt [])])] [] := by
 refine a_body F.mix func38 (by rfl) ntmps38 ?_
 refine k_seq ?_
 refine k_region rfl ?_
 refine a_op ?_
 refine a_op ?_
 refine s_nil (r_false ?_)
 refine q_next ?_
 refine k_seq ?_
 refine k_seq ?_
 refine k_region rfl ?_
 iterate 4 refine a_opd ?_
 refine a_god ?_
 refine a_god ?_
 refine a_god ?_
 refine a_god ?_
 refine a_god ?_
 refine a_god ?_
 refine a_god ?_
 refine a_god ?_
 refine a_opd ?_
 refine a_opd ?_
 refine a_god ?_
 refine a_god ?_
 refine a_callgod [] false (within_good Γ n hn.1 hn.2) ?_
 refine a_god ?_
 refine a_opd ?_
 refine s_nil (r_true (by kernel_rfl) ?_)
 refine q_next ?_
 refine a_false ?_
 refine k_skip ?_
 refine q_next ?_
 refine k_seq ?_
 refine k_seq ?_
 refine k_region rfl ?_
 refine a_op ?_
 refine a_op ?_
 refine s_nil (r_false ?_)
 refine q_next ?_
 refine k_block ?_
 refine k_seq ?_
 refine k_block ?_
 refine k_seq ?_
 refine k_block ?_
 refine k_seq ?_
 refine k_block ?_
 refine k_seq ?_
 refine k_block ?_
 refine k_seq ?_
 refine k_block ?_
 refine k_seq ?_
 refine k_block ?_
 refine k_seq ?_
 refine k_seq ?_
 refine k_seq ?_
 refine k_region rfl ?_
 refine a_op ?_
 refine a_op ?_
 refine s_nil (r_false ?_)
 refine q_next ?_
 refine a_false ?_
 refine k_skip ?_
 refine q_next ?_
 refine k_seq ?_
 refine k_seq ?_
 refine k_region rfl ?_
 refine a_op ?_
 refine a_op ?_
 refine s_nil (r_false ?_)
 refine q_next ?_
 refine a_false ?_
 refine k_skip ?_
 refine q_next ?_
 refine k_seq ?_
 refine k_seq ?_
 refine k_region rfl ?_
 refine a_op ?_
 refine a_op ?_
 refine s_nil (r_false ?_)
 refine q_next ?_
 refine a_false ?_
 refine k_skip ?_
 refine q_next ?_
 refine k_seq ?_
 refine k_seq ?_
 refine k_region rfl ?_
 refine a_op ?_
 refine a_op ?_
 refine s_nil (r_false ?_)
 refine q_next ?_
 refine a_false ?_
 refine k_skip ?_
 refine q_next ?_
 refine k_seq ?_
 refine k_seq ?_
 refine k_region rfl ?_
 refine a_op ?_
 refine a_op ?_
 refine s_nil (r_false ?_)
 refine q_next ?_
 refine a_false ?_
 refine k_skip ?_
 refine q_next ?_
 refine k_seq ?_
 refine k_region rfl ?_
 refine a_op ?_
 refine a_op ?_
 refine s_nil (r_false ?_)
 refine q_next ?_
 refine a_true ?_
 refine k_exit ?_
 refine q_seq_exit (q_block_pass (by decide) (q_seq_exit (q_block_pass (by decide) (q_seq_exit (q_block_pass (by decide) (q_seq_exit (q_block_pass (by decide) (q_seq_exit (q_block_pass (by decide) (q_seq_exit (q_block_exit (q_next ?_))))))))))))
 refine k_seq ?_
 refine k_seq ?_
 refine k_region rfl ?_
 iterate 8 refine a_op ?_
 refine s_nil (r_false ?_)
 refine q_next ?_
 refine k_seq ?_
 refine k_seq ?_
 refine k_region rfl ?_
 iterate 4 refine a_op ?_
 refine a_go ?_
 refine a_go ?_
 refine a_go ?_
 refine a_go ?_
 refine a_go ?_
 refine a_op ?_
 refine s_nil (r_false ?_)
 refine q_next ?_
 refine a_false ?_
 refine k_skip ?_
 refine q_next ?_
 refine k_seq ?_
 refine k_region rfl ?_
 refine a_op ?_
 refine s_nil (r_false ?_)
 refine q_next ?_
 refine k_ret ?_
 refine q_seq_ret (q_block_ret (q_seq_ret ?_))
 refine ⟨.inr rfl, a_ret [(.p 0, .p 0), (.p 1, .p 1)] (by rw [results38]) ?_ ?_ ?_⟩ <;> simp [-List.map_set, -List.map_replicate, -List.reduceReplicate, -List.map_map, -List.map_drop, -List.map_take, num, bol, txt, w8, w16, w32, w64, lst, cls, rowO, boxO, List.take_of_length_le, Wr.cellsL_len, wA, Wr.k_mk, Wr.n_mk, Wr.s_mk, Wr.l_mk, Wr.cellsL, Wr.z_eq, mbT]

theorem done_snap (Γ : Gl) (r : Rl) (d n : Int) (hd : 0 ≤ d ∧ d < r.boxes.length) (hn : 0 ≤ n ∧ n ≤ 4503599627370496) (hsh : 0 ≤ r.shares ∧ r.shares ≤ 1000000) (b : List UInt8) : Go.Ot.Good Γ prog 38 [.ptr (.p 0) 0, .agg [.t (num 6), .t (num d), .t (num n), .t (txt b)], .ptr (.p 1) 0] [boxO 31 [.t (.sl r.boxes.length (r.boxes.flatMap mbT)), .t (lst txt r.log), .t (txt r.snap), .t (num r.shares), .t (lst num r.last)], boxO 44 [.t (num 6), .t (num 0), .t (num 0), .t (.v (.slice none 0 0))]] (.t (.v .nilIface)) [some (boxO 31 [.t (.sl r.boxes.length (r.boxes.flatMap mbT)), .t (lst txt r.log), .t (txt r.snap), .t (num r.shares), .t (lst num r.last)]), some (boxO 44 [.t (num 6), .t (num 0), .t (num r.shares), .t (lst txt (snL r))])] [] := by
 by_cases hc : 0 < r.shares
 ·rw [snL_y hc]; exact done_snapy Γ r d n hd hn hsh b hc
 ·rw [snL_n hc]; exact done_snapn Γ r d n hd hn hsh b hc

theorem step_share (Γ : Gl) (hE : EG Γ) (r : Rl) (d n : Int) (hd : 0 ≤ d ∧ d < r.boxes.length) (hn : 0 ≤ n ∧ n ≤ 4503599627370496) (hsh : 0 ≤ r.shares ∧ r.shares ≤ 1000000) (hr : rlS r) (b : List UInt8) (hb : b.length ≤ 1000) (hsn : r.snap.length ≤ 1000000) : Go.Ot.Good Γ prog 14 [.agg [.t (.sl r.boxes.length (r.boxes.flatMap mbT)), .t (lst txt r.log), .t (txt r.snap), .t (num r.shares), .t (lst num r.last)], .t (txt (Rq.p ⟨5, d, n, b⟩))] [] (.tup [.agg [.t (.sl r.boxes.length (r.boxes.flatMap mbT)), .t (lst txt r.log), .t (txt b), .t (num (r.shares + 1)), .t (lst num r.last)], .t (txt (Rp.p ⟨5, 0, r.shares + 1, []⟩))]) [] [] := by
 have hqm : mayW 6 (Rq.w ⟨5, d, n, b⟩) = true := by rw [Rq.w, rqW_may]; exact decide_eq_true (by show b.length ≤ _; omega)
 have hqo : Rq.ok ⟨5, d, n, b⟩ := ⟨⟨by show (-9223372036854775808 : Int) ≤ 5; omega, by show (5 : Int) ≤ _; omega⟩, ⟨by show (-9223372036854775808 : Int) ≤ d; omega, by show d ≤ _; have := hr.b; omega⟩, ⟨by show (-9223372036854775808 : Int) ≤ n; omega, by show n ≤ _; omega⟩⟩
 have hql : (Rq.p ⟨5, d, n, b⟩).length ≤ 1048613 := by rw [Rq.p, PutW_t hqm]; exact rq_len hqm
 refine a_body F.mix func14 (by rfl) ntmps14 ?_
 refine k_seq ?_
 refine k_region rfl ?_
 iterate 3 refine a_op ?_
 refine s_nil (r_false ?_)
 refine q_next ?_
 refine k_seq ?_
 refine k_region rfl ?_
 refine a_op ?_
 refine a_call [] true (copied_r Γ r hr) ?_
 refine a_op ?_
 refine a_op ?_
 refine s_nil (r_false ?_)
 refine q_next ?_
 refine k_seq ?_
 refine k_region rfl ?_
 refine a_op ?_
 refine a_call [] true (by have h := Getq_good Γ hE (Rq.p ⟨5, d, n, b⟩) (by rw [Rq.p, PutW_t hqm]; have := rqW_len 5 d n b; show (putW 6 (rqW 5 d n b)).length ≤ _; omega); rw [GQ_p hqm hqo, ansQ_some] at h; exact h) ?_
 iterate 6 refine a_op ?_
 refine s_nil (r_false ?_)
 refine q_next ?_
 refine k_seq ?_
 refine k_seq ?_
 refine k_region rfl ?_
 refine a_op ?_
 refine a_op ?_
 refine s_nil (r_false ?_)
 refine q_next ?_
 refine a_false ?_
 refine k_skip ?_
 refine q_next ?_
 refine k_seq ?_
 refine k_region rfl ?_
 refine a_op ?_
 refine a_call [] true (copied_r Γ r hr) ?_
 refine a_op ?_
 refine a_op ?_
 refine s_nil (r_false ?_)
 refine q_next ?_
 refine k_seq ?_
 refine k_region rfl ?_
 iterate 5 refine a_op ?_
 refine s_nil (r_false ?_)
 refine q_next ?_
 refine k_seq ?_
 refine k_region rfl ?_
 refine a_op ?_
 refine a_callp [.r 5 2 0, .r 6 3 0] [] [] true (done_share Γ r d n hd hn hsh b) ?_
 refine a_op ?_
 refine s_nil (r_false ?_)
 refine q_next ?_
 refine k_seq ?_
 refine k_seq ?_
 refine k_region rfl ?_
 refine a_op ?_
 refine a_nilnil true ?_
 refine s_nil (r_false ?_)
 refine q_next ?_
 refine a_false ?_
 refine k_skip ?_
 refine q_next ?_
 refine k_seq ?_
 refine k_region rfl ?_
 refine a_op ?_
 refine s_nil (r_false ?_)
 refine q_next ?_
 refine k_seq ?_
 refine k_seq ?_
 refine k_region rfl ?_
 refine a_op ?_
 refine a_op ?_
 refine a_callp [.r 10 0 0] [] [] false (Rs.Asnil_good Γ (num 0)) ?_
 refine s_nil (r_false ?_)
 refine q_next ?_
 refine a_false ?_
 refine k_skip ?_
 refine q_next ?_
 refine k_seq ?_
 refine k_region rfl ?_
 refine a_opd ?_
 refine a_opd ?_
 refine a_calld [] false (rpPut_good Γ ⟨5, 0, r.shares + 1, []⟩ (by simp [tsz]) (by simp)) ?_
 refine a_opd ?_
 refine a_opd ?_
 refine s_nil (r_true (by kernel_rfl) ?_)
 refine q_next ?_
 refine k_ret ?_
 refine ⟨.inr rfl, a_ret [] (by rw [results14]) ?_ ?_ ?_⟩ <;> simp [-List.map_set, -List.map_replicate, -List.reduceReplicate, -List.map_map, -List.map_drop, -List.map_take, num, bol, txt, w8, w16, w32, w64, lst, cls, rowO, boxO, List.take_of_length_le, Wr.cellsL_len, wA, Wr.k_mk, Wr.n_mk, Wr.s_mk, Wr.l_mk, Wr.cellsL, Wr.z_eq, mbT, qA, pA]

theorem step_snap (Γ : Gl) (hE : EG Γ) (r : Rl) (d n : Int) (hd : 0 ≤ d ∧ d < r.boxes.length) (hn : 0 ≤ n ∧ n ≤ 4503599627370496) (hsh : 0 ≤ r.shares ∧ r.shares ≤ 1000000) (hr : rlS r) (b : List UInt8) (hb : b.length ≤ 1000) (hsn : r.snap.length ≤ 1000000) : Go.Ot.Good Γ prog 14 [.agg [.t (.sl r.boxes.length (r.boxes.flatMap mbT)), .t (lst txt r.log), .t (txt r.snap), .t (num r.shares), .t (lst num r.last)], .t (txt (Rq.p ⟨6, d, n, b⟩))] [] (.tup [.agg [.t (.sl r.boxes.length (r.boxes.flatMap mbT)), .t (lst txt r.log), .t (txt r.snap), .t (num r.shares), .t (lst num r.last)], .t (txt (Rp.p ⟨6, 0, r.shares, snL r⟩))]) [] [] := by
 have hqm : mayW 6 (Rq.w ⟨6, d, n, b⟩) = true := by rw [Rq.w, rqW_may]; exact decide_eq_true (by show b.length ≤ _; omega)
 have hqo : Rq.ok ⟨6, d, n, b⟩ := ⟨⟨by show (-9223372036854775808 : Int) ≤ 6; omega, by show (6 : Int) ≤ _; omega⟩, ⟨by show (-9223372036854775808 : Int) ≤ d; omega, by show d ≤ _; have := hr.b; omega⟩, ⟨by show (-9223372036854775808 : Int) ≤ n; omega, by show n ≤ _; omega⟩⟩
 have hql : (Rq.p ⟨6, d, n, b⟩).length ≤ 1048613 := by rw [Rq.p, PutW_t hqm]; exact rq_len hqm
 refine a_body F.mix func14 (by rfl) ntmps14 ?_
 refine k_seq ?_
 refine k_region rfl ?_
 iterate 3 refine a_op ?_
 refine s_nil (r_false ?_)
 refine q_next ?_
 refine k_seq ?_
 refine k_region rfl ?_
 refine a_op ?_
 refine a_call [] true (copied_r Γ r hr) ?_
 refine a_op ?_
 refine a_op ?_
 refine s_nil (r_false ?_)
 refine q_next ?_
 refine k_seq ?_
 refine k_region rfl ?_
 refine a_op ?_
 refine a_call [] true (by have h := Getq_good Γ hE (Rq.p ⟨6, d, n, b⟩) (by rw [Rq.p, PutW_t hqm]; have := rqW_len 6 d n b; show (putW 6 (rqW 6 d n b)).length ≤ _; omega); rw [GQ_p hqm hqo, ansQ_some] at h; exact h) ?_
 iterate 6 refine a_op ?_
 refine s_nil (r_false ?_)
 refine q_next ?_
 refine k_seq ?_
 refine k_seq ?_
 refine k_region rfl ?_
 refine a_op ?_
 refine a_op ?_
 refine s_nil (r_false ?_)
 refine q_next ?_
 refine a_false ?_
 refine k_skip ?_
 refine q_next ?_
 refine k_seq ?_
 refine k_region rfl ?_
 refine a_op ?_
 refine a_call [] true (copied_r Γ r hr) ?_
 refine a_op ?_
 refine a_op ?_
 refine s_nil (r_false ?_)
 refine q_next ?_
 refine k_seq ?_
 refine k_region rfl ?_
 iterate 5 refine a_op ?_
 refine s_nil (r_false ?_)
 refine q_next ?_
 refine k_seq ?_
 refine k_region rfl ?_
 refine a_op ?_
 refine a_callp [.r 5 2 0, .r 6 3 0] [] [] true (done_snap Γ r d n hd hn hsh b) ?_
 refine a_op ?_
 refine s_nil (r_false ?_)
 refine q_next ?_
 refine k_seq ?_
 refine k_seq ?_
 refine k_region rfl ?_
 refine a_op ?_
 refine a_nilnil true ?_
 refine s_nil (r_false ?_)
 refine q_next ?_
 refine a_false ?_
 refine k_skip ?_
 refine q_next ?_
 refine k_seq ?_
 refine k_region rfl ?_
 refine a_op ?_
 refine s_nil (r_false ?_)
 refine q_next ?_
 refine k_seq ?_
 refine k_seq ?_
 refine k_region rfl ?_
 refine a_op ?_
 refine a_op ?_
 refine a_callp [.r 10 0 0] [] [] false (Rs.Asnil_good Γ (num 0)) ?_
 refine s_nil (r_false ?_)
 refine q_next ?_
 refine a_false ?_
 refine k_skip ?_
 refine q_next ?_
 refine k_seq ?_
 refine k_region rfl ?_
 refine a_opd ?_
 refine a_opd ?_
 refine a_calld [] false (rpPut_good Γ ⟨6, 0, r.shares, snL r⟩ (by show tsz (snL r) ≤ _; have := tsz_sn hsn; omega) (by show (snL r).length ≤ _; have := snL_len r; omega)) ?_
 refine a_opd ?_
 refine a_opd ?_
 refine s_nil (r_true (by kernel_rfl) ?_)
 refine q_next ?_
 refine k_ret ?_
 refine ⟨.inr rfl, a_ret [] (by rw [results14]) ?_ ?_ ?_⟩ <;> simp [-List.map_set, -List.map_replicate, -List.reduceReplicate, -List.map_map, -List.map_drop, -List.map_take, num, bol, txt, w8, w16, w32, w64, lst, cls, rowO, boxO, List.take_of_length_le, Wr.cellsL_len, wA, Wr.k_mk, Wr.n_mk, Wr.s_mk, Wr.l_mk, Wr.cellsL, Wr.z_eq, mbT, qA, pA]

theorem step_form (Γ : Gl) (hE : EG Γ) (r : Rl) (hr : rlS r) (b : List UInt8) (hb : b.length ≤ 1000000) (hg : GQ b = none) : Go.Ot.Good Γ prog 14 [.agg [.t (.sl r.boxes.length (r.boxes.flatMap mbT)), .t (lst txt r.log), .t (txt r.snap), .t (num r.shares), .t (lst num r.last)], .t (txt b)] [] (.tup [.agg [.t (.sl r.boxes.length (r.boxes.flatMap mbT)), .t (lst txt r.log), .t (txt r.snap), .t (num r.shares), .t (lst num r.last)], .t (txt (Rp.p ⟨0, 5, 0, []⟩))]) [] [] := by
 refine a_body F.mix func14 (by rfl) ntmps14 ?_
 refine k_seq ?_
 refine k_region rfl ?_
 iterate 3 refine a_op ?_
 refine s_nil (r_false ?_)
 refine q_next ?_
 refine k_seq ?_
 refine k_region rfl ?_
 refine a_op ?_
 refine a_call [] true (copied_r Γ r hr) ?_
 refine a_op ?_
 refine a_op ?_
 refine s_nil (r_false ?_)
 refine q_next ?_
 refine k_seq ?_
 refine k_region rfl ?_
 refine a_op ?_
 refine a_call [] true (by have h := Getq_good Γ hE b hb; rw [hg, ansQ_none] at h; exact h) ?_
 iterate 6 refine a_op ?_
 refine s_nil (r_false ?_)
 refine q_next ?_
 refine k_seq ?_
 refine k_seq ?_
 refine k_region rfl ?_
 refine a_op ?_
 refine a_op ?_
 refine s_nil (r_false ?_)
 refine q_next ?_
 refine a_true ?_
 refine k_seq ?_
 refine k_region rfl ?_
 refine a_opd ?_
 refine a_opd ?_
 refine a_calld [] false (rpPut_good Γ ⟨0, 5, 0, []⟩ (by simp [tsz]) (by simp)) ?_
 refine a_opd ?_
 refine a_opd ?_
 refine s_nil (r_true (by kernel_rfl) ?_)
 refine q_next ?_
 refine k_ret ?_
 refine q_seq_ret ?_
 refine ⟨.inr rfl, a_ret [] (by rw [results14]) ?_ ?_ ?_⟩ <;> simp [-List.map_set, -List.map_replicate, -List.reduceReplicate, -List.map_map, -List.map_drop, -List.map_take, num, bol, txt, w8, w16, w32, w64, lst, cls, rowO, boxO, List.take_of_length_le, Wr.cellsL_len, wA, Wr.k_mk, Wr.n_mk, Wr.s_mk, Wr.l_mk, Wr.cellsL, Wr.z_eq, mbT, qA, pA, Rq.z]

end Go.Proofs.Tryz
