/- Contracts of this program's functions. -/
import Derived.Test.YtnliecfmadifkaaDoorSC2
set_option maxHeartbeats 4000000
set_option maxRecDepth 100000
set_option linter.unusedVariables false
set_option linter.unusedSimpArgs false
namespace Go.Proofs.Tryd
open Go Go.Ot
attribute [local irreducible] wpK wpS seqK blockK loopF regK meetK OpSpec Le nowF
theorem wr_dnN (Γ : Gl) (hE : EG Γ) (s : St4) (cr ct : Int) (i : Int) (x : List UInt8)  : Go.Ot.Good Γ prog 10 [.ptr (.p 0) 0, .t (num i), .t (txt x)] [boxO 57 [.t (txt (s 0)), .t (txt (s 1)), .t (txt (s 2)), .t (txt (s 3)), .t (.v (.slice none 0 0)), .t (num (cr)), .t (.v (.slice none 0 0)), .t (num (ct)), .t (bol (true))]] (.t (num 13)) [some (boxO 57 [.t (txt (s 0)), .t (txt (s 1)), .t (txt (s 2)), .t (txt (s 3)), .t (.v (.slice none 0 0)), .t (num (cr)), .t (.v (.slice none 0 0)), .t (num (ct)), .t (bol (true))])] [] := by
  refine a_body F.mix func10 (by rfl) ntmps10 ?_
  refine k_seq ?_
  refine k_region rfl ?_
  refine a_op ?_
  refine s_nil (r_false ?_)
  refine q_next ?_
  refine k_seq ?_
  refine k_region rfl ?_
  refine a_op ?_
  refine a_op ?_
  refine a_callp [.p 0] [] [] false (at_dnN Γ s cr ct [119, 114, 105, 116, 101] i) ?_
  refine a_op ?_
  refine s_nil (r_false ?_)
  refine q_next ?_
  refine k_seq ?_
  refine k_seq ?_
  refine k_region rfl ?_
  refine a_op ?_
  refine a_isnil false ?_
  refine s_nil (r_false ?_)
  refine q_next ?_
  refine a_false ?_
  refine k_skip ?_
  refine q_next ?_
  refine k_seq ?_
  refine k_seq ?_
  refine k_region rfl ?_
  refine a_op ?_
  refine a_isnil true ?_
  refine s_nil (r_false ?_)
  refine q_next ?_
  refine a_true ?_
  refine k_seq ?_
  refine k_region rfl ?_
  refine a_op ?_
  refine a_call [] false (num_er Γ hE 13 [119, 114, 105, 116, 101]) ?_
  refine a_op ?_
  refine s_nil (r_false ?_)
  refine q_next ?_
  refine k_ret ?_
  refine q_seq_ret ?_
  refine ⟨.inr rfl, a_ret [(.p 0, .p 0)] (by rw [results10]) ?_ ?_ ?_⟩ <;> simp [-List.map_set, -List.map_replicate, -List.reduceReplicate, -List.map_map, -List.map_drop, -List.map_take, num, bol, txt, w8, w16, w32, w64, lst, cls, rowO, boxO, List.take_of_length_le]

theorem wr_argN (Γ : Gl) (hE : EG Γ) (s : St4) (cr ct : Int) (i : Int) (x : List UInt8) (h : i < 0 ∨ 4 ≤ i) : Go.Ot.Good Γ prog 10 [.ptr (.p 0) 0, .t (num i), .t (txt x)] [boxO 57 [.t (txt (s 0)), .t (txt (s 1)), .t (txt (s 2)), .t (txt (s 3)), .t (.v (.slice none 0 0)), .t (num (cr)), .t (.v (.slice none 0 0)), .t (num (ct)), .t (bol (false))]] (.t (num 1)) [some (boxO 57 [.t (txt (s 0)), .t (txt (s 1)), .t (txt (s 2)), .t (txt (s 3)), .t (.v (.slice none 0 0)), .t (num (cr)), .t (.v (.slice none 0 0)), .t (num (ct)), .t (bol (false))])] [] := by
  refine a_body F.mix func10 (by rfl) ntmps10 ?_
  refine k_seq ?_
  refine k_region rfl ?_
  refine a_op ?_
  refine s_nil (r_false ?_)
  refine q_next ?_
  refine k_seq ?_
  refine k_region rfl ?_
  refine a_op ?_
  refine a_op ?_
  refine a_callp [.p 0] [] [] false (at_argN Γ s cr ct [119, 114, 105, 116, 101] i h) ?_
  refine a_op ?_
  refine s_nil (r_false ?_)
  refine q_next ?_
  refine k_seq ?_
  refine k_seq ?_
  refine k_region rfl ?_
  refine a_op ?_
  refine a_isnil false ?_
  refine s_nil (r_false ?_)
  refine q_next ?_
  refine a_false ?_
  refine k_skip ?_
  refine q_next ?_
  refine k_seq ?_
  refine k_seq ?_
  refine k_region rfl ?_
  refine a_op ?_
  refine a_isnil true ?_
  refine s_nil (r_false ?_)
  refine q_next ?_
  refine a_true ?_
  refine k_seq ?_
  refine k_region rfl ?_
  refine a_op ?_
  refine a_call [] false (num_er Γ hE 1 [119, 114, 105, 116, 101]) ?_
  refine a_op ?_
  refine s_nil (r_false ?_)
  refine q_next ?_
  refine k_ret ?_
  refine q_seq_ret ?_
  refine ⟨.inr rfl, a_ret [(.p 0, .p 0)] (by rw [results10]) ?_ ?_ ?_⟩ <;> simp [-List.map_set, -List.map_replicate, -List.reduceReplicate, -List.map_map, -List.map_drop, -List.map_take, num, bol, txt, w8, w16, w32, w64, lst, cls, rowO, boxO, List.take_of_length_le]

theorem wr_lastN (Γ : Gl) (hE : EG Γ) (s : St4) (cr ct : Int) (i : Int) (x : List UInt8) (h0 : 0 ≤ i) (h1 : i < 4) (hb : -4611686018427387904 ≤ ct ∧ ct ≤ 4611686018427387904) (h : ct + 1 = cr) : Go.Ot.Good Γ prog 10 [.ptr (.p 0) 0, .t (num i), .t (txt x)] [boxO 57 [.t (txt (s 0)), .t (txt (s 1)), .t (txt (s 2)), .t (txt (s 3)), .t (.v (.slice none 0 0)), .t (num (cr)), .t (.v (.slice none 0 0)), .t (num (ct)), .t (bol (false))]] (.t (num 13)) [some (boxO 57 [.t (txt (s 0)), .t (txt (s 1)), .t (txt (s 2)), .t (txt (s 3)), .t (.v (.slice none 0 0)), .t (num (cr)), .t (.v (.slice none 0 0)), .t (num (ct + 1)), .t (bol (true))])] [] := by
  refine a_body F.mix func10 (by rfl) ntmps10 ?_
  refine k_seq ?_
  refine k_region rfl ?_
  refine a_op ?_
  refine s_nil (r_false ?_)
  refine q_next ?_
  refine k_seq ?_
  refine k_region rfl ?_
  refine a_op ?_
  refine a_op ?_
  refine a_callp [.p 0] [] [] false (at_okN Γ s cr ct [119, 114, 105, 116, 101] i h0 h1) ?_
  refine a_op ?_
  refine s_nil (r_false ?_)
  refine q_next ?_
  refine k_seq ?_
  refine k_seq ?_
  refine k_region rfl ?_
  refine a_op ?_
  refine a_nilnil false ?_
  refine s_nil (r_false ?_)
  refine q_next ?_
  refine a_true ?_
  refine k_region rfl ?_
  refine a_op ?_
  refine a_callp [.p 0] [] [] false (ctd_dnN Γ s cr ct [119, 114, 105, 116, 101] hb h) ?_
  refine a_op ?_
  refine s_nil (r_false ?_)
  refine q_next ?_
  refine k_seq ?_
  refine k_seq ?_
  refine k_region rfl ?_
  refine a_op ?_
  refine a_isnil true ?_
  refine s_nil (r_false ?_)
  refine q_next ?_
  refine a_true ?_
  refine k_seq ?_
  refine k_region rfl ?_
  refine a_op ?_
  refine a_call [] false (num_er Γ hE 13 [119, 114, 105, 116, 101]) ?_
  refine a_op ?_
  refine s_nil (r_false ?_)
  refine q_next ?_
  refine k_ret ?_
  refine q_seq_ret ?_
  refine ⟨.inr rfl, a_ret [(.p 0, .p 0)] (by rw [results10]) ?_ ?_ ?_⟩ <;> simp [-List.map_set, -List.map_replicate, -List.reduceReplicate, -List.map_map, -List.map_drop, -List.map_take, num, bol, txt, w8, w16, w32, w64, lst, cls, rowO, boxO, List.take_of_length_le]

theorem wr_okN (Γ : Gl) (s : St4) (cr ct : Int) (i : Nat) (x : List UInt8) (hi : i < 4) (hb : -4611686018427387904 ≤ ct ∧ ct ≤ 4611686018427387904) (h : ¬ ct + 1 = cr) : Go.Ot.Good Γ prog 10 [.ptr (.p 0) 0, .t (num i), .t (txt x)] [boxO 57 [.t (txt (s 0)), .t (txt (s 1)), .t (txt (s 2)), .t (txt (s 3)), .t (.v (.slice none 0 0)), .t (num (cr)), .t (.v (.slice none 0 0)), .t (num (ct)), .t (bol (false))]] (.t (num 0)) [some (boxO 57 [.t (txt (s 0)), .t (txt (s 1)), .t (txt (s 2)), .t (txt (s 3)), .msl (.n 0) 0 1 2, .t (num (cr)), .t (.v (.slice none 0 0)), .t (num (ct + 1)), .t (bol (false))])] [⟨(chL [(i, x)]).map D.t, 64, true, true⟩] := by
  refine a_body F.mix func10 (by rfl) ntmps10 ?_
  refine k_seq ?_
  refine k_region rfl ?_
  refine a_op ?_
  refine s_nil (r_false ?_)
  refine q_next ?_
  refine k_seq ?_
  refine k_region rfl ?_
  refine a_op ?_
  refine a_op ?_
  refine a_callp [.p 0] [] [] false (at_okN Γ s cr ct [119, 114, 105, 116, 101] i (by omega) (by omega)) ?_
  refine a_op ?_
  refine s_nil (r_false ?_)
  refine q_next ?_
  refine k_seq ?_
  refine k_seq ?_
  refine k_region rfl ?_
  refine a_op ?_
  refine a_nilnil false ?_
  refine s_nil (r_false ?_)
  refine q_next ?_
  refine a_true ?_
  refine k_region rfl ?_
  refine a_op ?_
  refine a_callp [.p 0] [] [] false (ctd_okN Γ s cr ct [119, 114, 105, 116, 101] hb h) ?_
  refine a_op ?_
  refine s_nil (r_false ?_)
  refine q_next ?_
  refine k_seq ?_
  refine k_seq ?_
  refine k_region rfl ?_
  refine a_op ?_
  refine a_nilnil true ?_
  refine s_nil (r_false ?_)
  refine q_next ?_
  refine a_false ?_
  refine k_skip ?_
  refine q_next ?_
  refine k_seq ?_
  refine k_region rfl ?_
  iterate 13 refine a_op ?_
  refine s_nil (r_false ?_)
  refine q_next ?_
  refine k_seq ?_
  refine k_region rfl ?_
  refine a_op ?_
  refine s_nil (r_false ?_)
  refine q_next ?_
  refine k_ret ?_
  refine ⟨.inr rfl, a_ret [(.p 0, .p 0), (.n 0, .r 6 9 0)] (by rw [results10]) ?_ ?_ ?_⟩ <;> simp [-List.map_set, -List.map_replicate, -List.reduceReplicate, -List.map_map, -List.map_drop, -List.map_take, num, bol, txt, w8, w16, w32, w64, lst, cls, rowO, boxO, List.take_of_length_le, chL_app, chL]

theorem sy_dnN (Γ : Gl) (hE : EG Γ) (s : St4) (cr ct : Int)  : Go.Ot.Good Γ prog 12 [.ptr (.p 0) 0] [boxO 57 [.t (txt (s 0)), .t (txt (s 1)), .t (txt (s 2)), .t (txt (s 3)), .t (.v (.slice none 0 0)), .t (num (cr)), .t (.v (.slice none 0 0)), .t (num (ct)), .t (bol (true))]] (.t (num 13)) [some (boxO 57 [.t (txt (s 0)), .t (txt (s 1)), .t (txt (s 2)), .t (txt (s 3)), .t (.v (.slice none 0 0)), .t (num (cr)), .t (.v (.slice none 0 0)), .t (num (ct)), .t (bol (true))])] [] := by
  refine a_body F.mix func12 (by rfl) ntmps12 ?_
  refine k_seq ?_
  refine k_region rfl ?_
  refine a_op ?_
  refine s_nil (r_false ?_)
  refine q_next ?_
  refine k_seq ?_
  refine k_region rfl ?_
  refine a_op ?_
  refine a_callp [.p 0] [] [] false (up_dnN Γ s cr ct [115, 121, 110, 99]) ?_
  refine a_op ?_
  refine s_nil (r_false ?_)
  refine q_next ?_
  refine k_seq ?_
  refine k_seq ?_
  refine k_region rfl ?_
  refine a_op ?_
  refine a_isnil false ?_
  refine s_nil (r_false ?_)
  refine q_next ?_
  refine a_false ?_
  refine k_skip ?_
  refine q_next ?_
  refine k_seq ?_
  refine k_seq ?_
  refine k_region rfl ?_
  refine a_op ?_
  refine a_isnil true ?_
  refine s_nil (r_false ?_)
  refine q_next ?_
  refine a_true ?_
  refine k_seq ?_
  refine k_region rfl ?_
  refine a_op ?_
  refine a_call [] false (num_er Γ hE 13 [115, 121, 110, 99]) ?_
  refine a_op ?_
  refine s_nil (r_false ?_)
  refine q_next ?_
  refine k_ret ?_
  refine q_seq_ret ?_
  refine ⟨.inr rfl, a_ret [(.p 0, .p 0)] (by rw [results12]) ?_ ?_ ?_⟩ <;> simp [-List.map_set, -List.map_replicate, -List.reduceReplicate, -List.map_map, -List.map_drop, -List.map_take, num, bol, txt, w8, w16, w32, w64, lst, cls, rowO, boxO, List.take_of_length_le]

theorem sy_lastN (Γ : Gl) (hE : EG Γ) (s : St4) (cr ct : Int) (hb : -4611686018427387904 ≤ ct ∧ ct ≤ 4611686018427387904) (h : ct + 1 = cr) : Go.Ot.Good Γ prog 12 [.ptr (.p 0) 0] [boxO 57 [.t (txt (s 0)), .t (txt (s 1)), .t (txt (s 2)), .t (txt (s 3)), .t (.v (.slice none 0 0)), .t (num (cr)), .t (.v (.slice none 0 0)), .t (num (ct)), .t (bol (false))]] (.t (num 13)) [some (boxO 57 [.t (txt (s 0)), .t (txt (s 1)), .t (txt (s 2)), .t (txt (s 3)), .t (.v (.slice none 0 0)), .t (num (cr)), .t (.v (.slice none 0 0)), .t (num (ct + 1)), .t (bol (true))])] [] := by
  refine a_body F.mix func12 (by rfl) ntmps12 ?_
  refine k_seq ?_
  refine k_region rfl ?_
  refine a_op ?_
  refine s_nil (r_false ?_)
  refine q_next ?_
  refine k_seq ?_
  refine k_region rfl ?_
  refine a_op ?_
  refine a_callp [.p 0] [] [] false (up_okN Γ s cr ct [115, 121, 110, 99]) ?_
  refine a_op ?_
  refine s_nil (r_false ?_)
  refine q_next ?_
  refine k_seq ?_
  refine k_seq ?_
  refine k_region rfl ?_
  refine a_op ?_
  refine a_nilnil false ?_
  refine s_nil (r_false ?_)
  refine q_next ?_
  refine a_true ?_
  refine k_region rfl ?_
  refine a_op ?_
  refine a_callp [.p 0] [] [] false (ctd_dnN Γ s cr ct [115, 121, 110, 99] hb h) ?_
  refine a_op ?_
  refine s_nil (r_false ?_)
  refine q_next ?_
  refine k_seq ?_
  refine k_seq ?_
  refine k_region rfl ?_
  refine a_op ?_
  refine a_isnil true ?_
  refine s_nil (r_false ?_)
  refine q_next ?_
  refine a_true ?_
  refine k_seq ?_
  refine k_region rfl ?_
  refine a_op ?_
  refine a_call [] false (num_er Γ hE 13 [115, 121, 110, 99]) ?_
  refine a_op ?_
  refine s_nil (r_false ?_)
  refine q_next ?_
  refine k_ret ?_
  refine q_seq_ret ?_
  refine ⟨.inr rfl, a_ret [(.p 0, .p 0)] (by rw [results12]) ?_ ?_ ?_⟩ <;> simp [-List.map_set, -List.map_replicate, -List.reduceReplicate, -List.map_map, -List.map_drop, -List.map_take, num, bol, txt, w8, w16, w32, w64, lst, cls, rowO, boxO, List.take_of_length_le]

theorem sy_okN (Γ : Gl) (s : St4) (cr ct : Int) (hb : -4611686018427387904 ≤ ct ∧ ct ≤ 4611686018427387904) (h : ¬ ct + 1 = cr) : Go.Ot.Good Γ prog 12 [.ptr (.p 0) 0] [boxO 57 [.t (txt (s 0)), .t (txt (s 1)), .t (txt (s 2)), .t (txt (s 3)), .t (.v (.slice none 0 0)), .t (num (cr)), .t (.v (.slice none 0 0)), .t (num (ct)), .t (bol (false))]] (.t (num 0)) [some (boxO 57 [.t (txt ((s) 0)), .t (txt ((s) 1)), .t (txt ((s) 2)), .t (txt ((s) 3)), .t (.v (.slice none 0 0)), .t (num (cr)), .t (.v (.slice none 0 0)), .t (num (ct + 1)), .t (bol (false))])] [] := by
  refine a_body F.mix func12 (by rfl) ntmps12 ?_
  refine k_seq ?_
  refine k_region rfl ?_
  refine a_op ?_
  refine s_nil (r_false ?_)
  refine q_next ?_
  refine k_seq ?_
  refine k_region rfl ?_
  refine a_op ?_
  refine a_callp [.p 0] [] [] false (up_okN Γ s cr ct [115, 121, 110, 99]) ?_
  refine a_op ?_
  refine s_nil (r_false ?_)
  refine q_next ?_
  refine k_seq ?_
  refine k_seq ?_
  refine k_region rfl ?_
  refine a_op ?_
  refine a_nilnil false ?_
  refine s_nil (r_false ?_)
  refine q_next ?_
  refine a_true ?_
  refine k_region rfl ?_
  refine a_op ?_
  refine a_callp [.p 0] [] [] false (ctd_okN Γ s cr ct [115, 121, 110, 99] hb h) ?_
  refine a_op ?_
  refine s_nil (r_false ?_)
  refine q_next ?_
  refine k_seq ?_
  refine k_seq ?_
  refine k_region rfl ?_
  refine a_op ?_
  refine a_nilnil true ?_
  refine s_nil (r_false ?_)
  refine q_next ?_
  refine a_false ?_
  refine k_skip ?_
  refine q_next ?_
  refine k_seq ?_
  refine k_region rfl ?_
  iterate 3 refine a_op ?_
  refine a_callp [.p 0] [] [] false (nowN Γ s cr (ct + 1) false) ?_
  iterate 6 refine a_op ?_
  refine s_nil (r_false ?_)
  refine q_next ?_
  refine k_seq ?_
  refine k_region rfl ?_
  refine a_op ?_
  refine s_nil (r_false ?_)
  refine q_next ?_
  refine k_ret ?_
  refine ⟨.inr rfl, a_ret [(.p 0, .p 0)] (by rw [results12]) ?_ ?_ ?_⟩ <;> simp [-List.map_set, -List.map_replicate, -List.reduceReplicate, -List.map_map, -List.map_drop, -List.map_take, num, bol, txt, w8, w16, w32, w64, lst, cls, rowO, boxO, List.take_of_length_le]

theorem wr_dnR (Γ : Gl) (hE : EG Γ) (s : St4) (l : Chs) (hl : l.length ≤ 1000000) (h4 : In4 l) (cr ct : Int) (i : Int) (x : List UInt8)  : Go.Ot.Good Γ prog 10 [.ptr (.p 0) 0, .t (num i), .t (txt x)] [boxO 57 [.t (txt (s 0)), .t (txt (s 1)), .t (txt (s 2)), .t (txt (s 3)), .msl (.p 1) 0 l.length 2, .t (num (cr)), .t (.v (.slice none 0 0)), .t (num (ct)), .t (bol (true))], ⟨(chL l).map D.t, 64, true, true⟩] (.t (num 13)) [some (boxO 57 [.t (txt (s 0)), .t (txt (s 1)), .t (txt (s 2)), .t (txt (s 3)), .msl (.p 1) 0 l.length 2, .t (num (cr)), .t (.v (.slice none 0 0)), .t (num (ct)), .t (bol (true))]), some ⟨(chL l).map D.t, 64, true, true⟩] [] := by
  refine a_body F.mix func10 (by rfl) ntmps10 ?_
  refine k_seq ?_
  refine k_region rfl ?_
  refine a_op ?_
  refine s_nil (r_false ?_)
  refine q_next ?_
  refine k_seq ?_
  refine k_region rfl ?_
  refine a_op ?_
  refine a_op ?_
  refine a_callp [.p 0, .p 1] [] [.p 1] false (at_dnR Γ s l cr ct [119, 114, 105, 116, 101] i) ?_
  refine a_op ?_
  refine s_nil (r_false ?_)
  refine q_next ?_
  refine k_seq ?_
  refine k_seq ?_
  refine k_region rfl ?_
  refine a_op ?_
  refine a_isnil false ?_
  refine s_nil (r_false ?_)
  refine q_next ?_
  refine a_false ?_
  refine k_skip ?_
  refine q_next ?_
  refine k_seq ?_
  refine k_seq ?_
  refine k_region rfl ?_
  refine a_op ?_
  refine a_isnil true ?_
  refine s_nil (r_false ?_)
  refine q_next ?_
  refine a_true ?_
  refine k_seq ?_
  refine k_region rfl ?_
  refine a_op ?_
  refine a_call [] false (num_er Γ hE 13 [119, 114, 105, 116, 101]) ?_
  refine a_op ?_
  refine s_nil (r_false ?_)
  refine q_next ?_
  refine k_ret ?_
  refine q_seq_ret ?_
  refine ⟨.inr rfl, a_ret [(.p 0, .p 0), (.p 1, .p 1)] (by rw [results10]) ?_ ?_ ?_⟩ <;> simp [-List.map_set, -List.map_replicate, -List.reduceReplicate, -List.map_map, -List.map_drop, -List.map_take, num, bol, txt, w8, w16, w32, w64, lst, cls, rowO, boxO, List.take_of_length_le]

theorem wr_argR (Γ : Gl) (hE : EG Γ) (s : St4) (l : Chs) (hl : l.length ≤ 1000000) (h4 : In4 l) (cr ct : Int) (i : Int) (x : List UInt8) (h : i < 0 ∨ 4 ≤ i) : Go.Ot.Good Γ prog 10 [.ptr (.p 0) 0, .t (num i), .t (txt x)] [boxO 57 [.t (txt (s 0)), .t (txt (s 1)), .t (txt (s 2)), .t (txt (s 3)), .msl (.p 1) 0 l.length 2, .t (num (cr)), .t (.v (.slice none 0 0)), .t (num (ct)), .t (bol (false))], ⟨(chL l).map D.t, 64, true, true⟩] (.t (num 1)) [some (boxO 57 [.t (txt (s 0)), .t (txt (s 1)), .t (txt (s 2)), .t (txt (s 3)), .msl (.p 1) 0 l.length 2, .t (num (cr)), .t (.v (.slice none 0 0)), .t (num (ct)), .t (bol (false))]), some ⟨(chL l).map D.t, 64, true, true⟩] [] := by
  refine a_body F.mix func10 (by rfl) ntmps10 ?_
  refine k_seq ?_
  refine k_region rfl ?_
  refine a_op ?_
  refine s_nil (r_false ?_)
  refine q_next ?_
  refine k_seq ?_
  refine k_region rfl ?_
  refine a_op ?_
  refine a_op ?_
  refine a_callp [.p 0, .p 1] [] [.p 1] false (at_argR Γ s l cr ct [119, 114, 105, 116, 101] i h) ?_
  refine a_op ?_
  refine s_nil (r_false ?_)
  refine q_next ?_
  refine k_seq ?_
  refine k_seq ?_
  refine k_region rfl ?_
  refine a_op ?_
  refine a_isnil false ?_
  refine s_nil (r_false ?_)
  refine q_next ?_
  refine a_false ?_
  refine k_skip ?_
  refine q_next ?_
  refine k_seq ?_
  refine k_seq ?_
  refine k_region rfl ?_
  refine a_op ?_
  refine a_isnil true ?_
  refine s_nil (r_false ?_)
  refine q_next ?_
  refine a_true ?_
  refine k_seq ?_
  refine k_region rfl ?_
  refine a_op ?_
  refine a_call [] false (num_er Γ hE 1 [119, 114, 105, 116, 101]) ?_
  refine a_op ?_
  refine s_nil (r_false ?_)
  refine q_next ?_
  refine k_ret ?_
  refine q_seq_ret ?_
  refine ⟨.inr rfl, a_ret [(.p 0, .p 0), (.p 1, .p 1)] (by rw [results10]) ?_ ?_ ?_⟩ <;> simp [-List.map_set, -List.map_replicate, -List.reduceReplicate, -List.map_map, -List.map_drop, -List.map_take, num, bol, txt, w8, w16, w32, w64, lst, cls, rowO, boxO, List.take_of_length_le]

theorem wr_lastR (Γ : Gl) (hE : EG Γ) (s : St4) (l : Chs) (hl : l.length ≤ 1000000) (h4 : In4 l) (cr ct : Int) (i : Int) (x : List UInt8) (h0 : 0 ≤ i) (h1 : i < 4) (hb : -4611686018427387904 ≤ ct ∧ ct ≤ 4611686018427387904) (h : ct + 1 = cr) : Go.Ot.Good Γ prog 10 [.ptr (.p 0) 0, .t (num i), .t (txt x)] [boxO 57 [.t (txt (s 0)), .t (txt (s 1)), .t (txt (s 2)), .t (txt (s 3)), .msl (.p 1) 0 l.length 2, .t (num (cr)), .t (.v (.slice none 0 0)), .t (num (ct)), .t (bol (false))], ⟨(chL l).map D.t, 64, true, true⟩] (.t (num 13)) [some (boxO 57 [.t (txt (s 0)), .t (txt (s 1)), .t (txt (s 2)), .t (txt (s 3)), .msl (.p 1) 0 l.length 2, .t (num (cr)), .t (.v (.slice none 0 0)), .t (num (ct + 1)), .t (bol (true))]), some ⟨(chL l).map D.t, 64, true, true⟩] [] := by
  refine a_body F.mix func10 (by rfl) ntmps10 ?_
  refine k_seq ?_
  refine k_region rfl ?_
  refine a_op ?_
  refine s_nil (r_false ?_)
  refine q_next ?_
  refine k_seq ?_
  refine k_region rfl ?_
  refine a_op ?_
  refine a_op ?_
  refine a_callp [.p 0, .p 1] [] [.p 1] false (at_okR Γ s l cr ct [119, 114, 105, 116, 101] i h0 h1) ?_
  refine a_op ?_
  refine s_nil (r_false ?_)
  refine q_next ?_
  refine k_seq ?_
  refine k_seq ?_
  refine k_region rfl ?_
  refine a_op ?_
  refine a_nilnil false ?_
  refine s_nil (r_false ?_)
  refine q_next ?_
  refine a_true ?_
  refine k_region rfl ?_
  refine a_op ?_
  refine a_callp [.p 0, .p 1] [] [.p 1] false (ctd_dnR Γ s l cr ct [119, 114, 105, 116, 101] hb h) ?_
  refine a_op ?_
  refine s_nil (r_false ?_)
  refine q_next ?_
  refine k_seq ?_
  refine k_seq ?_
  refine k_region rfl ?_
  refine a_op ?_
  refine a_isnil true ?_
  refine s_nil (r_false ?_)
  refine q_next ?_
  refine a_true ?_
  refine k_seq ?_
  refine k_region rfl ?_
  refine a_op ?_
  refine a_call [] false (num_er Γ hE 13 [119, 114, 105, 116, 101]) ?_
  refine a_op ?_
  refine s_nil (r_false ?_)
  refine q_next ?_
  refine k_ret ?_
  refine q_seq_ret ?_
  refine ⟨.inr rfl, a_ret [(.p 0, .p 0), (.p 1, .p 1)] (by rw [results10]) ?_ ?_ ?_⟩ <;> simp [-List.map_set, -List.map_replicate, -List.reduceReplicate, -List.map_map, -List.map_drop, -List.map_take, num, bol, txt, w8, w16, w32, w64, lst, cls, rowO, boxO, List.take_of_length_le]

theorem wr_okR (Γ : Gl) (s : St4) (l : Chs) (hl : l.length ≤ 1000000) (h4 : In4 l) (cr ct : Int) (i : Nat) (x : List UInt8) (hi : i < 4) (hb : -4611686018427387904 ≤ ct ∧ ct ≤ 4611686018427387904) (h : ¬ ct + 1 = cr) : Go.Ot.Good Γ prog 10 [.ptr (.p 0) 0, .t (num i), .t (txt x)] [boxO 57 [.t (txt (s 0)), .t (txt (s 1)), .t (txt (s 2)), .t (txt (s 3)), .msl (.p 1) 0 l.length 2, .t (num (cr)), .t (.v (.slice none 0 0)), .t (num (ct)), .t (bol (false))], ⟨(chL l).map D.t, 64, true, true⟩] (.t (num 0)) [some (boxO 57 [.t (txt (s 0)), .t (txt (s 1)), .t (txt (s 2)), .t (txt (s 3)), .msl (.p 1) 0 (l.length + 1) 2, .t (num (cr)), .t (.v (.slice none 0 0)), .t (num (ct + 1)), .t (bol (false))]), some ⟨(chL (l ++ [(i, x)])).map D.t, 64, true, true⟩] [] := by
  refine a_body F.mix func10 (by rfl) ntmps10 ?_
  refine k_seq ?_
  refine k_region rfl ?_
  refine a_op ?_
  refine s_nil (r_false ?_)
  refine q_next ?_
  refine k_seq ?_
  refine k_region rfl ?_
  refine a_op ?_
  refine a_op ?_
  refine a_callp [.p 0, .p 1] [] [.p 1] false (at_okR Γ s l cr ct [119, 114, 105, 116, 101] i (by omega) (by omega)) ?_
  refine a_op ?_
  refine s_nil (r_false ?_)
  refine q_next ?_
  refine k_seq ?_
  refine k_seq ?_
  refine k_region rfl ?_
  refine a_op ?_
  refine a_nilnil false ?_
  refine s_nil (r_false ?_)
  refine q_next ?_
  refine a_true ?_
  refine k_region rfl ?_
  refine a_op ?_
  refine a_callp [.p 0, .p 1] [] [.p 1] false (ctd_okR Γ s l cr ct [119, 114, 105, 116, 101] hb h) ?_
  refine a_op ?_
  refine s_nil (r_false ?_)
  refine q_next ?_
  refine k_seq ?_
  refine k_seq ?_
  refine k_region rfl ?_
  refine a_op ?_
  refine a_nilnil true ?_
  refine s_nil (r_false ?_)
  refine q_next ?_
  refine a_false ?_
  refine k_skip ?_
  refine q_next ?_
  refine k_seq ?_
  refine k_region rfl ?_
  iterate 13 refine a_op ?_
  refine s_nil (r_false ?_)
  refine q_next ?_
  refine k_seq ?_
  refine k_region rfl ?_
  refine a_op ?_
  refine s_nil (r_false ?_)
  refine q_next ?_
  refine k_ret ?_
  refine ⟨.inr rfl, a_ret [(.p 0, .p 0), (.p 1, .p 1)] (by rw [results10]) ?_ ?_ ?_⟩ <;> simp [-List.map_set, -List.map_replicate, -List.reduceReplicate, -List.map_map, -List.map_drop, -List.map_take, num, bol, txt, w8, w16, w32, w64, lst, cls, rowO, boxO, List.take_of_length_le, chL_app, chL]

theorem sy_dnR (Γ : Gl) (hE : EG Γ) (s : St4) (l : Chs) (hl : l.length ≤ 1000000) (h4 : In4 l) (cr ct : Int)  : Go.Ot.Good Γ prog 12 [.ptr (.p 0) 0] [boxO 57 [.t (txt (s 0)), .t (txt (s 1)), .t (txt (s 2)), .t (txt (s 3)), .msl (.p 1) 0 l.length 2, .t (num (cr)), .t (.v (.slice none 0 0)), .t (num (ct)), .t (bol (true))], ⟨(chL l).map D.t, 64, true, true⟩] (.t (num 13)) [some (boxO 57 [.t (txt (s 0)), .t (txt (s 1)), .t (txt (s 2)), .t (txt (s 3)), .msl (.p 1) 0 l.length 2, .t (num (cr)), .t (.v (.slice none 0 0)), .t (num (ct)), .t (bol (true))]), some ⟨(chL l).map D.t, 64, true, true⟩] [] := by
  refine a_body F.mix func12 (by rfl) ntmps12 ?_
  refine k_seq ?_
  refine k_region rfl ?_
  refine a_op ?_
  refine s_nil (r_false ?_)
  refine q_next ?_
  refine k_seq ?_
  refine k_region rfl ?_
  refine a_op ?_
  refine a_callp [.p 0, .p 1] [] [.p 1] false (up_dnR Γ s l cr ct [115, 121, 110, 99]) ?_
  refine a_op ?_
  refine s_nil (r_false ?_)
  refine q_next ?_
  refine k_seq ?_
  refine k_seq ?_
  refine k_region rfl ?_
  refine a_op ?_
  refine a_isnil false ?_
  refine s_nil (r_false ?_)
  refine q_next ?_
  refine a_false ?_
  refine k_skip ?_
  refine q_next ?_
  refine k_seq ?_
  refine k_seq ?_
  refine k_region rfl ?_
  refine a_op ?_
  refine a_isnil true ?_
  refine s_nil (r_false ?_)
  refine q_next ?_
  refine a_true ?_
  refine k_seq ?_
  refine k_region rfl ?_
  refine a_op ?_
  refine a_call [] false (num_er Γ hE 13 [115, 121, 110, 99]) ?_
  refine a_op ?_
  refine s_nil (r_false ?_)
  refine q_next ?_
  refine k_ret ?_
  refine q_seq_ret ?_
  refine ⟨.inr rfl, a_ret [(.p 0, .p 0), (.p 1, .p 1)] (by rw [results12]) ?_ ?_ ?_⟩ <;> simp [-List.map_set, -List.map_replicate, -List.reduceReplicate, -List.map_map, -List.map_drop, -List.map_take, num, bol, txt, w8, w16, w32, w64, lst, cls, rowO, boxO, List.take_of_length_le]

theorem sy_lastR (Γ : Gl) (hE : EG Γ) (s : St4) (l : Chs) (hl : l.length ≤ 1000000) (h4 : In4 l) (cr ct : Int) (hb : -4611686018427387904 ≤ ct ∧ ct ≤ 4611686018427387904) (h : ct + 1 = cr) : Go.Ot.Good Γ prog 12 [.ptr (.p 0) 0] [boxO 57 [.t (txt (s 0)), .t (txt (s 1)), .t (txt (s 2)), .t (txt (s 3)), .msl (.p 1) 0 l.length 2, .t (num (cr)), .t (.v (.slice none 0 0)), .t (num (ct)), .t (bol (false))], ⟨(chL l).map D.t, 64, true, true⟩] (.t (num 13)) [some (boxO 57 [.t (txt (s 0)), .t (txt (s 1)), .t (txt (s 2)), .t (txt (s 3)), .msl (.p 1) 0 l.length 2, .t (num (cr)), .t (.v (.slice none 0 0)), .t (num (ct + 1)), .t (bol (true))]), some ⟨(chL l).map D.t, 64, true, true⟩] [] := by
  refine a_body F.mix func12 (by rfl) ntmps12 ?_
  refine k_seq ?_
  refine k_region rfl ?_
  refine a_op ?_
  refine s_nil (r_false ?_)
  refine q_next ?_
  refine k_seq ?_
  refine k_region rfl ?_
  refine a_op ?_
  refine a_callp [.p 0, .p 1] [] [.p 1] false (up_okR Γ s l cr ct [115, 121, 110, 99]) ?_
  refine a_op ?_
  refine s_nil (r_false ?_)
  refine q_next ?_
  refine k_seq ?_
  refine k_seq ?_
  refine k_region rfl ?_
  refine a_op ?_
  refine a_nilnil false ?_
  refine s_nil (r_false ?_)
  refine q_next ?_
  refine a_true ?_
  refine k_region rfl ?_
  refine a_op ?_
  refine a_callp [.p 0, .p 1] [] [.p 1] false (ctd_dnR Γ s l cr ct [115, 121, 110, 99] hb h) ?_
  refine a_op ?_
  refine s_nil (r_false ?_)
  refine q_next ?_
  refine k_seq ?_
  refine k_seq ?_
  refine k_region rfl ?_
  refine a_op ?_
  refine a_isnil true ?_
  refine s_nil (r_false ?_)
  refine q_next ?_
  refine a_true ?_
  refine k_seq ?_
  refine k_region rfl ?_
  refine a_op ?_
  refine a_call [] false (num_er Γ hE 13 [115, 121, 110, 99]) ?_
  refine a_op ?_
  refine s_nil (r_false ?_)
  refine q_next ?_
  refine k_ret ?_
  refine q_seq_ret ?_
  refine ⟨.inr rfl, a_ret [(.p 0, .p 0), (.p 1, .p 1)] (by rw [results12]) ?_ ?_ ?_⟩ <;> simp [-List.map_set, -List.map_replicate, -List.reduceReplicate, -List.map_map, -List.map_drop, -List.map_take, num, bol, txt, w8, w16, w32, w64, lst, cls, rowO, boxO, List.take_of_length_le]

theorem sy_okR (Γ : Gl) (s : St4) (l : Chs) (hl : l.length ≤ 1000000) (h4 : In4 l) (cr ct : Int) (hb : -4611686018427387904 ≤ ct ∧ ct ≤ 4611686018427387904) (h : ¬ ct + 1 = cr) : Go.Ot.Good Γ prog 12 [.ptr (.p 0) 0] [boxO 57 [.t (txt (s 0)), .t (txt (s 1)), .t (txt (s 2)), .t (txt (s 3)), .msl (.p 1) 0 l.length 2, .t (num (cr)), .t (.v (.slice none 0 0)), .t (num (ct)), .t (bol (false))], ⟨(chL l).map D.t, 64, true, true⟩] (.t (num 0)) [some (boxO 57 [.t (txt ((nowF s l) 0)), .t (txt ((nowF s l) 1)), .t (txt ((nowF s l) 2)), .t (txt ((nowF s l) 3)), .t (.v (.slice none 0 0)), .t (num (cr)), .t (.v (.slice none 0 0)), .t (num (ct + 1)), .t (bol (false))]), none] [] := by
  refine a_body F.mix func12 (by rfl) ntmps12 ?_
  refine k_seq ?_
  refine k_region rfl ?_
  refine a_op ?_
  refine s_nil (r_false ?_)
  refine q_next ?_
  refine k_seq ?_
  refine k_region rfl ?_
  refine a_op ?_
  refine a_callp [.p 0, .p 1] [] [.p 1] false (up_okR Γ s l cr ct [115, 121, 110, 99]) ?_
  refine a_op ?_
  refine s_nil (r_false ?_)
  refine q_next ?_
  refine k_seq ?_
  refine k_seq ?_
  refine k_region rfl ?_
  refine a_op ?_
  refine a_nilnil false ?_
  refine s_nil (r_false ?_)
  refine q_next ?_
  refine a_true ?_
  refine k_region rfl ?_
  refine a_op ?_
  refine a_callp [.p 0, .p 1] [] [.p 1] false (ctd_okR Γ s l cr ct [115, 121, 110, 99] hb h) ?_
  refine a_op ?_
  refine s_nil (r_false ?_)
  refine q_next ?_
  refine k_seq ?_
  refine k_seq ?_
  refine k_region rfl ?_
  refine a_op ?_
  refine a_nilnil true ?_
  refine s_nil (r_false ?_)
  refine q_next ?_
  refine a_false ?_
  refine k_skip ?_
  refine q_next ?_
  refine k_seq ?_
  refine k_region rfl ?_
  iterate 3 refine a_op ?_
  refine a_callp [.p 0, .p 1] [] [.p 1] false (nowR Γ s l hl h4 cr (ct + 1) false) ?_
  iterate 6 refine a_op ?_
  refine s_nil (r_false ?_)
  refine q_next ?_
  refine k_seq ?_
  refine k_region rfl ?_
  refine a_op ?_
  refine s_nil (r_false ?_)
  refine q_next ?_
  refine k_ret ?_
  refine ⟨.inr rfl, a_ret [(.p 0, .p 0)] (by rw [results12]) ?_ ?_ ?_⟩ <;> simp [-List.map_set, -List.map_replicate, -List.reduceReplicate, -List.map_map, -List.map_drop, -List.map_take, num, bol, txt, w8, w16, w32, w64, lst, cls, rowO, boxO, List.take_of_length_le]

end Go.Proofs.Tryd
