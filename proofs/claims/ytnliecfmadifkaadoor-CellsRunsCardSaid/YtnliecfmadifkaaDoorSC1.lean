/- Contracts of this program's functions. -/
import Derived.Test.YtnliecfmadifkaaDoorSCP
set_option maxHeartbeats 4000000
set_option maxRecDepth 100000
set_option linter.unusedVariables false
set_option linter.unusedSimpArgs false
namespace Go.Proofs.Tryd
open Go Go.Ot
attribute [local irreducible] wpK wpS seqK blockK loopF regK meetK OpSpec Le
theorem up_okN (Γ : Gl) (s : St4) (cr ct : Int) (q : List UInt8) : Go.Ot.Good Γ prog 28 [.ptr (.p 0) 0, .t (txt q)] [boxO 57 [.t (txt (s 0)), .t (txt (s 1)), .t (txt (s 2)), .t (txt (s 3)), .t (.v (.slice none 0 0)), .t (num (cr)), .t (.v (.slice none 0 0)), .t (num (ct)), .t (bol (false))]] (.t (.v .nilIface)) [some (boxO 57 [.t (txt (s 0)), .t (txt (s 1)), .t (txt (s 2)), .t (txt (s 3)), .t (.v (.slice none 0 0)), .t (num (cr)), .t (.v (.slice none 0 0)), .t (num (ct)), .t (bol (false))])] [] := by
  refine a_body F.mix func28 (by rfl) ntmps28 ?_
  refine k_seq ?_
  refine k_region rfl ?_
  refine a_op ?_
  refine s_nil (r_false ?_)
  refine q_next ?_
  refine k_seq ?_
  refine k_block ?_
  refine k_seq ?_
  refine k_region rfl ?_
  refine a_op ?_
  refine a_by (spec_ptrNil false rfl rfl (by kernel_rfl)) ?_
  refine a_op ?_
  refine s_nil (r_false ?_)
  refine q_next ?_
  refine a_false ?_
  refine k_seq ?_
  refine k_region rfl ?_
  iterate 5 refine a_op ?_
  refine s_nil (r_false ?_)
  refine q_next ?_
  refine a_false ?_
  refine k_skip ?_
  refine q_block (q_next ?_)
  refine k_seq ?_
  refine k_region rfl ?_
  refine a_op ?_
  refine s_nil (r_false ?_)
  refine q_next ?_
  refine k_ret ?_
  refine ⟨.inr rfl, a_ret [(.p 0, .p 0)] (by rw [results28]) ?_ ?_ ?_⟩ <;> simp [-List.map_set, -List.map_replicate, -List.reduceReplicate, -List.map_map, -List.map_drop, -List.map_take, num, bol, txt, w8, w16, w32, w64, lst, cls, rowO, boxO, List.take_of_length_le, chO, erC_eq]

theorem up_dnN (Γ : Gl) (s : St4) (cr ct : Int) (q : List UInt8) : Go.Ot.Good Γ prog 28 [.ptr (.p 0) 0, .t (txt q)] [boxO 57 [.t (txt (s 0)), .t (txt (s 1)), .t (txt (s 2)), .t (txt (s 3)), .t (.v (.slice none 0 0)), .t (num (cr)), .t (.v (.slice none 0 0)), .t (num (ct)), .t (bol (true))]] (.t (erC 13 q)) [some (boxO 57 [.t (txt (s 0)), .t (txt (s 1)), .t (txt (s 2)), .t (txt (s 3)), .t (.v (.slice none 0 0)), .t (num (cr)), .t (.v (.slice none 0 0)), .t (num (ct)), .t (bol (true))])] [] := by
  refine a_body F.mix func28 (by rfl) ntmps28 ?_
  refine k_seq ?_
  refine k_region rfl ?_
  refine a_op ?_
  refine s_nil (r_false ?_)
  refine q_next ?_
  refine k_seq ?_
  refine k_block ?_
  refine k_seq ?_
  refine k_region rfl ?_
  refine a_op ?_
  refine a_by (spec_ptrNil false rfl rfl (by kernel_rfl)) ?_
  refine a_op ?_
  refine s_nil (r_false ?_)
  refine q_next ?_
  refine a_false ?_
  refine k_seq ?_
  refine k_region rfl ?_
  iterate 5 refine a_op ?_
  refine s_nil (r_false ?_)
  refine q_next ?_
  refine a_true ?_
  refine k_seq ?_
  refine k_region rfl ?_
  iterate 6 refine a_op ?_
  refine s_nil (r_false ?_)
  refine q_next ?_
  refine k_ret ?_
  refine q_block_ret (q_seq_ret ?_)
  refine ⟨.inr rfl, a_ret [(.p 0, .p 0)] (by rw [results28]) ?_ ?_ ?_⟩ <;> simp [-List.map_set, -List.map_replicate, -List.reduceReplicate, -List.map_map, -List.map_drop, -List.map_take, num, bol, txt, w8, w16, w32, w64, lst, cls, rowO, boxO, List.take_of_length_le, chO, erC_eq]

theorem at_okN (Γ : Gl) (s : St4) (cr ct : Int) (q : List UInt8) (i : Int) (h0 : 0 ≤ i) (h1 : i < 4) : Go.Ot.Good Γ prog 24 [.ptr (.p 0) 0, .t (txt q), .t (num i)] [boxO 57 [.t (txt (s 0)), .t (txt (s 1)), .t (txt (s 2)), .t (txt (s 3)), .t (.v (.slice none 0 0)), .t (num (cr)), .t (.v (.slice none 0 0)), .t (num (ct)), .t (bol (false))]] (.t (.v .nilIface)) [some (boxO 57 [.t (txt (s 0)), .t (txt (s 1)), .t (txt (s 2)), .t (txt (s 3)), .t (.v (.slice none 0 0)), .t (num (cr)), .t (.v (.slice none 0 0)), .t (num (ct)), .t (bol (false))])] [] := by
  refine a_body F.mix func24 (by rfl) ntmps24 ?_
  refine k_seq ?_
  refine k_region rfl ?_
  refine a_op ?_
  refine s_nil (r_false ?_)
  refine q_next ?_
  refine k_seq ?_
  refine k_seq ?_
  refine k_region rfl ?_
  refine a_op ?_
  refine a_op ?_
  refine a_callp [.p 0] [] [] false (up_okN Γ s cr ct q) ?_
  refine a_op ?_
  refine s_nil (r_false ?_)
  refine q_next ?_
  refine k_seq ?_
  refine k_region rfl ?_
  refine a_op ?_
  refine a_nilnil true ?_
  refine s_nil (r_false ?_)
  refine q_next ?_
  refine a_false ?_
  refine k_skip ?_
  refine q_next ?_
  refine k_seq ?_
  refine k_seq ?_
  refine k_region rfl ?_
  iterate 3 refine a_op ?_
  first | refine a_go ?_ | refine a_no ?_ | refine a_may ?_
  first | refine a_go ?_ | refine a_no ?_ | refine a_may ?_
  refine a_op ?_
  refine s_nil (r_false ?_)
  refine q_next ?_
  refine a_false ?_
  refine k_skip ?_
  refine q_next ?_
  refine k_seq ?_
  refine k_region rfl ?_
  refine a_op ?_
  refine s_nil (r_false ?_)
  refine q_next ?_
  refine k_ret ?_
  refine ⟨.inr rfl, a_ret [(.p 0, .p 0)] (by rw [results24]) ?_ ?_ ?_⟩ <;> simp [-List.map_set, -List.map_replicate, -List.reduceReplicate, -List.map_map, -List.map_drop, -List.map_take, num, bol, txt, w8, w16, w32, w64, lst, cls, rowO, boxO, List.take_of_length_le, chO, erC_eq]

theorem at_dnN (Γ : Gl) (s : St4) (cr ct : Int) (q : List UInt8) (i : Int) : Go.Ot.Good Γ prog 24 [.ptr (.p 0) 0, .t (txt q), .t (num i)] [boxO 57 [.t (txt (s 0)), .t (txt (s 1)), .t (txt (s 2)), .t (txt (s 3)), .t (.v (.slice none 0 0)), .t (num (cr)), .t (.v (.slice none 0 0)), .t (num (ct)), .t (bol (true))]] (.t (erC 13 q)) [some (boxO 57 [.t (txt (s 0)), .t (txt (s 1)), .t (txt (s 2)), .t (txt (s 3)), .t (.v (.slice none 0 0)), .t (num (cr)), .t (.v (.slice none 0 0)), .t (num (ct)), .t (bol (true))])] [] := by
  refine a_body F.mix func24 (by rfl) ntmps24 ?_
  refine k_seq ?_
  refine k_region rfl ?_
  refine a_op ?_
  refine s_nil (r_false ?_)
  refine q_next ?_
  refine k_seq ?_
  refine k_seq ?_
  refine k_region rfl ?_
  refine a_op ?_
  refine a_op ?_
  refine a_callp [.p 0] [] [] false (up_dnN Γ s cr ct q) ?_
  refine a_op ?_
  refine s_nil (r_false ?_)
  refine q_next ?_
  refine k_seq ?_
  refine k_region rfl ?_
  refine a_op ?_
  refine a_isnil true ?_
  refine s_nil (r_false ?_)
  refine q_next ?_
  refine a_true ?_
  refine k_seq ?_
  refine k_region rfl ?_
  refine a_op ?_
  refine a_op ?_
  refine s_nil (r_false ?_)
  refine q_next ?_
  refine k_ret ?_
  refine q_seq_ret ?_
  refine ⟨.inr rfl, a_ret [(.p 0, .p 0)] (by rw [results24]) ?_ ?_ ?_⟩ <;> simp [-List.map_set, -List.map_replicate, -List.reduceReplicate, -List.map_map, -List.map_drop, -List.map_take, num, bol, txt, w8, w16, w32, w64, lst, cls, rowO, boxO, List.take_of_length_le, chO, erC_eq]

theorem at_argN (Γ : Gl) (s : St4) (cr ct : Int) (q : List UInt8) (i : Int) (h : i < 0 ∨ 4 ≤ i) : Go.Ot.Good Γ prog 24 [.ptr (.p 0) 0, .t (txt q), .t (num i)] [boxO 57 [.t (txt (s 0)), .t (txt (s 1)), .t (txt (s 2)), .t (txt (s 3)), .t (.v (.slice none 0 0)), .t (num (cr)), .t (.v (.slice none 0 0)), .t (num (ct)), .t (bol (false))]] (.t (erC 1 q)) [some (boxO 57 [.t (txt (s 0)), .t (txt (s 1)), .t (txt (s 2)), .t (txt (s 3)), .t (.v (.slice none 0 0)), .t (num (cr)), .t (.v (.slice none 0 0)), .t (num (ct)), .t (bol (false))])] [] := by
  refine a_body F.mix func24 (by rfl) ntmps24 ?_
  refine k_seq ?_
  refine k_region rfl ?_
  refine a_op ?_
  refine s_nil (r_false ?_)
  refine q_next ?_
  refine k_seq ?_
  refine k_seq ?_
  refine k_region rfl ?_
  refine a_op ?_
  refine a_op ?_
  refine a_callp [.p 0] [] [] false (up_okN Γ s cr ct q) ?_
  refine a_op ?_
  refine s_nil (r_false ?_)
  refine q_next ?_
  refine k_seq ?_
  refine k_region rfl ?_
  refine a_op ?_
  refine a_nilnil true ?_
  refine s_nil (r_false ?_)
  refine q_next ?_
  refine a_false ?_
  refine k_skip ?_
  refine q_next ?_
  refine k_seq ?_
  refine k_seq ?_
  refine k_region rfl ?_
  rcases h with h | h
  · skip
    iterate 3 refine a_op ?_
    first | refine a_go ?_ | refine a_no ?_ | refine a_may ?_
    first | refine a_go ?_ | refine a_no ?_ | refine a_may ?_
    refine a_op ?_
    refine s_nil (r_false ?_)
    refine q_next ?_
    refine a_true ?_
    refine k_seq ?_
    refine k_region rfl ?_
    iterate 6 refine a_op ?_
    refine s_nil (r_false ?_)
    refine q_next ?_
    refine k_ret ?_
    refine q_seq_ret ?_
    refine ⟨.inr rfl, a_ret [(.p 0, .p 0)] (by rw [results24]) ?_ ?_ ?_⟩ <;> simp [-List.map_set, -List.map_replicate, -List.reduceReplicate, -List.map_map, -List.map_drop, -List.map_take, num, bol, txt, w8, w16, w32, w64, lst, cls, rowO, boxO, List.take_of_length_le, chO, erC_eq]
  · skip
    iterate 3 refine a_op ?_
    first | refine a_go ?_ | refine a_no ?_ | refine a_may ?_
    first | refine a_go ?_ | refine a_no ?_ | refine a_may ?_
    refine a_op ?_
    refine s_nil (r_false ?_)
    refine q_next ?_
    refine a_true ?_
    refine k_seq ?_
    refine k_region rfl ?_
    iterate 6 refine a_op ?_
    refine s_nil (r_false ?_)
    refine q_next ?_
    refine k_ret ?_
    refine q_seq_ret ?_
    refine ⟨.inr rfl, a_ret [(.p 0, .p 0)] (by rw [results24]) ?_ ?_ ?_⟩ <;> simp [-List.map_set, -List.map_replicate, -List.reduceReplicate, -List.map_map, -List.map_drop, -List.map_take, num, bol, txt, w8, w16, w32, w64, lst, cls, rowO, boxO, List.take_of_length_le, chO, erC_eq]

theorem ctd_okN (Γ : Gl) (s : St4) (cr ct : Int) (q : List UInt8)(hb : -4611686018427387904 ≤ ct ∧ ct ≤ 4611686018427387904) (h : ¬ ct + 1 = cr) : Go.Ot.Good Γ prog 25 [.ptr (.p 0) 0, .t (txt q)] [boxO 57 [.t (txt (s 0)), .t (txt (s 1)), .t (txt (s 2)), .t (txt (s 3)), .t (.v (.slice none 0 0)), .t (num (cr)), .t (.v (.slice none 0 0)), .t (num (ct)), .t (bol (false))]] (.t (.v .nilIface)) [some (boxO 57 [.t (txt (s 0)), .t (txt (s 1)), .t (txt (s 2)), .t (txt (s 3)), .t (.v (.slice none 0 0)), .t (num (cr)), .t (.v (.slice none 0 0)), .t (num (ct + 1)), .t (bol (false))])] [] := by
  refine a_body F.mix func25 (by rfl) ntmps25 ?_
  refine k_seq ?_
  refine k_region rfl ?_
  refine a_op ?_
  refine s_nil (r_false ?_)
  refine q_next ?_
  refine k_seq ?_
  refine k_region rfl ?_
  iterate 8 refine a_op ?_
  refine s_nil (r_false ?_)
  refine q_next ?_
  refine k_seq ?_
  refine k_region rfl ?_
  iterate 14 refine a_opd ?_
  refine s_nil (r_true (by kernel_rfl) ?_)
  refine q_next ?_
  refine k_seq ?_
  refine k_region rfl ?_
  refine a_op ?_
  refine a_op ?_
  refine a_callp [.p 0] [] [] false (up_okN Γ s cr (ct + 1) q) ?_
  refine a_op ?_
  refine s_nil (r_false ?_)
  refine q_next ?_
  refine k_ret ?_
  refine ⟨.inr rfl, a_ret [(.p 0, .p 0)] (by rw [results25]) ?_ ?_ ?_⟩ <;> simp [-List.map_set, -List.map_replicate, -List.reduceReplicate, -List.map_map, -List.map_drop, -List.map_take, num, bol, txt, w8, w16, w32, w64, lst, cls, rowO, boxO, List.take_of_length_le, chO, erC_eq]

theorem ctd_dnN (Γ : Gl) (s : St4) (cr ct : Int) (q : List UInt8)(hb : -4611686018427387904 ≤ ct ∧ ct ≤ 4611686018427387904) (h : ct + 1 = cr) : Go.Ot.Good Γ prog 25 [.ptr (.p 0) 0, .t (txt q)] [boxO 57 [.t (txt (s 0)), .t (txt (s 1)), .t (txt (s 2)), .t (txt (s 3)), .t (.v (.slice none 0 0)), .t (num (cr)), .t (.v (.slice none 0 0)), .t (num (ct)), .t (bol (false))]] (.t (erC 13 q)) [some (boxO 57 [.t (txt (s 0)), .t (txt (s 1)), .t (txt (s 2)), .t (txt (s 3)), .t (.v (.slice none 0 0)), .t (num (cr)), .t (.v (.slice none 0 0)), .t (num (ct + 1)), .t (bol (true))])] [] := by
  refine a_body F.mix func25 (by rfl) ntmps25 ?_
  refine k_seq ?_
  refine k_region rfl ?_
  refine a_op ?_
  refine s_nil (r_false ?_)
  refine q_next ?_
  refine k_seq ?_
  refine k_region rfl ?_
  iterate 8 refine a_op ?_
  refine s_nil (r_false ?_)
  refine q_next ?_
  refine k_seq ?_
  refine k_region rfl ?_
  iterate 14 refine a_opd ?_
  refine s_nil (r_true (by kernel_rfl) ?_)
  refine q_next ?_
  refine k_seq ?_
  refine k_region rfl ?_
  refine a_op ?_
  refine a_op ?_
  refine a_callp [.p 0] [] [] false (up_dnN Γ s cr (ct + 1) q) ?_
  refine a_op ?_
  refine s_nil (r_false ?_)
  refine q_next ?_
  refine k_ret ?_
  refine ⟨.inr rfl, a_ret [(.p 0, .p 0)] (by rw [results25]) ?_ ?_ ?_⟩ <;> simp [-List.map_set, -List.map_replicate, -List.reduceReplicate, -List.map_map, -List.map_drop, -List.map_take, num, bol, txt, w8, w16, w32, w64, lst, cls, rowO, boxO, List.take_of_length_le, chO, erC_eq]

theorem up_okR (Γ : Gl) (s : St4) (l : Chs) (cr ct : Int) (q : List UInt8) : Go.Ot.Good Γ prog 28 [.ptr (.p 0) 0, .t (txt q)] [boxO 57 [.t (txt (s 0)), .t (txt (s 1)), .t (txt (s 2)), .t (txt (s 3)), .msl (.p 1) 0 l.length 2, .t (num (cr)), .t (.v (.slice none 0 0)), .t (num (ct)), .t (bol (false))], ⟨(chL l).map D.t, 64, true, true⟩] (.t (.v .nilIface)) [some (boxO 57 [.t (txt (s 0)), .t (txt (s 1)), .t (txt (s 2)), .t (txt (s 3)), .msl (.p 1) 0 l.length 2, .t (num (cr)), .t (.v (.slice none 0 0)), .t (num (ct)), .t (bol (false))]), some ⟨(chL l).map D.t, 64, true, true⟩] [] := by
  refine a_body F.mix func28 (by rfl) ntmps28 ?_
  refine k_seq ?_
  refine k_region rfl ?_
  refine a_op ?_
  refine s_nil (r_false ?_)
  refine q_next ?_
  refine k_seq ?_
  refine k_block ?_
  refine k_seq ?_
  refine k_region rfl ?_
  refine a_op ?_
  refine a_by (spec_ptrNil false rfl rfl (by kernel_rfl)) ?_
  refine a_op ?_
  refine s_nil (r_false ?_)
  refine q_next ?_
  refine a_false ?_
  refine k_seq ?_
  refine k_region rfl ?_
  iterate 5 refine a_op ?_
  refine s_nil (r_false ?_)
  refine q_next ?_
  refine a_false ?_
  refine k_skip ?_
  refine q_block (q_next ?_)
  refine k_seq ?_
  refine k_region rfl ?_
  refine a_op ?_
  refine s_nil (r_false ?_)
  refine q_next ?_
  refine k_ret ?_
  refine ⟨.inr rfl, a_ret [(.p 0, .p 0), (.p 1, .p 1)] (by rw [results28]) ?_ ?_ ?_⟩ <;> simp [-List.map_set, -List.map_replicate, -List.reduceReplicate, -List.map_map, -List.map_drop, -List.map_take, num, bol, txt, w8, w16, w32, w64, lst, cls, rowO, boxO, List.take_of_length_le, chO, erC_eq]

theorem up_dnR (Γ : Gl) (s : St4) (l : Chs) (cr ct : Int) (q : List UInt8) : Go.Ot.Good Γ prog 28 [.ptr (.p 0) 0, .t (txt q)] [boxO 57 [.t (txt (s 0)), .t (txt (s 1)), .t (txt (s 2)), .t (txt (s 3)), .msl (.p 1) 0 l.length 2, .t (num (cr)), .t (.v (.slice none 0 0)), .t (num (ct)), .t (bol (true))], ⟨(chL l).map D.t, 64, true, true⟩] (.t (erC 13 q)) [some (boxO 57 [.t (txt (s 0)), .t (txt (s 1)), .t (txt (s 2)), .t (txt (s 3)), .msl (.p 1) 0 l.length 2, .t (num (cr)), .t (.v (.slice none 0 0)), .t (num (ct)), .t (bol (true))]), some ⟨(chL l).map D.t, 64, true, true⟩] [] := by
  refine a_body F.mix func28 (by rfl) ntmps28 ?_
  refine k_seq ?_
  refine k_region rfl ?_
  refine a_op ?_
  refine s_nil (r_false ?_)
  refine q_next ?_
  refine k_seq ?_
  refine k_block ?_
  refine k_seq ?_
  refine k_region rfl ?_
  refine a_op ?_
  refine a_by (spec_ptrNil false rfl rfl (by kernel_rfl)) ?_
  refine a_op ?_
  refine s_nil (r_false ?_)
  refine q_next ?_
  refine a_false ?_
  refine k_seq ?_
  refine k_region rfl ?_
  iterate 5 refine a_op ?_
  refine s_nil (r_false ?_)
  refine q_next ?_
  refine a_true ?_
  refine k_seq ?_
  refine k_region rfl ?_
  iterate 6 refine a_op ?_
  refine s_nil (r_false ?_)
  refine q_next ?_
  refine k_ret ?_
  refine q_block_ret (q_seq_ret ?_)
  refine ⟨.inr rfl, a_ret [(.p 0, .p 0), (.p 1, .p 1)] (by rw [results28]) ?_ ?_ ?_⟩ <;> simp [-List.map_set, -List.map_replicate, -List.reduceReplicate, -List.map_map, -List.map_drop, -List.map_take, num, bol, txt, w8, w16, w32, w64, lst, cls, rowO, boxO, List.take_of_length_le, chO, erC_eq]

theorem at_okR (Γ : Gl) (s : St4) (l : Chs) (cr ct : Int) (q : List UInt8) (i : Int) (h0 : 0 ≤ i) (h1 : i < 4) : Go.Ot.Good Γ prog 24 [.ptr (.p 0) 0, .t (txt q), .t (num i)] [boxO 57 [.t (txt (s 0)), .t (txt (s 1)), .t (txt (s 2)), .t (txt (s 3)), .msl (.p 1) 0 l.length 2, .t (num (cr)), .t (.v (.slice none 0 0)), .t (num (ct)), .t (bol (false))], ⟨(chL l).map D.t, 64, true, true⟩] (.t (.v .nilIface)) [some (boxO 57 [.t (txt (s 0)), .t (txt (s 1)), .t (txt (s 2)), .t (txt (s 3)), .msl (.p 1) 0 l.length 2, .t (num (cr)), .t (.v (.slice none 0 0)), .t (num (ct)), .t (bol (false))]), some ⟨(chL l).map D.t, 64, true, true⟩] [] := by
  refine a_body F.mix func24 (by rfl) ntmps24 ?_
  refine k_seq ?_
  refine k_region rfl ?_
  refine a_op ?_
  refine s_nil (r_false ?_)
  refine q_next ?_
  refine k_seq ?_
  refine k_seq ?_
  refine k_region rfl ?_
  refine a_op ?_
  refine a_op ?_
  refine a_callp [.p 0, .p 1] [] [.p 1] false (up_okR Γ s l cr ct q) ?_
  refine a_op ?_
  refine s_nil (r_false ?_)
  refine q_next ?_
  refine k_seq ?_
  refine k_region rfl ?_
  refine a_op ?_
  refine a_nilnil true ?_
  refine s_nil (r_false ?_)
  refine q_next ?_
  refine a_false ?_
  refine k_skip ?_
  refine q_next ?_
  refine k_seq ?_
  refine k_seq ?_
  refine k_region rfl ?_
  iterate 3 refine a_op ?_
  first | refine a_go ?_ | refine a_no ?_ | refine a_may ?_
  first | refine a_go ?_ | refine a_no ?_ | refine a_may ?_
  refine a_op ?_
  refine s_nil (r_false ?_)
  refine q_next ?_
  refine a_false ?_
  refine k_skip ?_
  refine q_next ?_
  refine k_seq ?_
  refine k_region rfl ?_
  refine a_op ?_
  refine s_nil (r_false ?_)
  refine q_next ?_
  refine k_ret ?_
  refine ⟨.inr rfl, a_ret [(.p 0, .p 0), (.p 1, .p 1)] (by rw [results24]) ?_ ?_ ?_⟩ <;> simp [-List.map_set, -List.map_replicate, -List.reduceReplicate, -List.map_map, -List.map_drop, -List.map_take, num, bol, txt, w8, w16, w32, w64, lst, cls, rowO, boxO, List.take_of_length_le, chO, erC_eq]

theorem at_dnR (Γ : Gl) (s : St4) (l : Chs) (cr ct : Int) (q : List UInt8) (i : Int) : Go.Ot.Good Γ prog 24 [.ptr (.p 0) 0, .t (txt q), .t (num i)] [boxO 57 [.t (txt (s 0)), .t (txt (s 1)), .t (txt (s 2)), .t (txt (s 3)), .msl (.p 1) 0 l.length 2, .t (num (cr)), .t (.v (.slice none 0 0)), .t (num (ct)), .t (bol (true))], ⟨(chL l).map D.t, 64, true, true⟩] (.t (erC 13 q)) [some (boxO 57 [.t (txt (s 0)), .t (txt (s 1)), .t (txt (s 2)), .t (txt (s 3)), .msl (.p 1) 0 l.length 2, .t (num (cr)), .t (.v (.slice none 0 0)), .t (num (ct)), .t (bol (true))]), some ⟨(chL l).map D.t, 64, true, true⟩] [] := by
  refine a_body F.mix func24 (by rfl) ntmps24 ?_
  refine k_seq ?_
  refine k_region rfl ?_
  refine a_op ?_
  refine s_nil (r_false ?_)
  refine q_next ?_
  refine k_seq ?_
  refine k_seq ?_
  refine k_region rfl ?_
  refine a_op ?_
  refine a_op ?_
  refine a_callp [.p 0, .p 1] [] [.p 1] false (up_dnR Γ s l cr ct q) ?_
  refine a_op ?_
  refine s_nil (r_false ?_)
  refine q_next ?_
  refine k_seq ?_
  refine k_region rfl ?_
  refine a_op ?_
  refine a_isnil true ?_
  refine s_nil (r_false ?_)
  refine q_next ?_
  refine a_true ?_
  refine k_seq ?_
  refine k_region rfl ?_
  refine a_op ?_
  refine a_op ?_
  refine s_nil (r_false ?_)
  refine q_next ?_
  refine k_ret ?_
  refine q_seq_ret ?_
  refine ⟨.inr rfl, a_ret [(.p 0, .p 0), (.p 1, .p 1)] (by rw [results24]) ?_ ?_ ?_⟩ <;> simp [-List.map_set, -List.map_replicate, -List.reduceReplicate, -List.map_map, -List.map_drop, -List.map_take, num, bol, txt, w8, w16, w32, w64, lst, cls, rowO, boxO, List.take_of_length_le, chO, erC_eq]

theorem at_argR (Γ : Gl) (s : St4) (l : Chs) (cr ct : Int) (q : List UInt8) (i : Int) (h : i < 0 ∨ 4 ≤ i) : Go.Ot.Good Γ prog 24 [.ptr (.p 0) 0, .t (txt q), .t (num i)] [boxO 57 [.t (txt (s 0)), .t (txt (s 1)), .t (txt (s 2)), .t (txt (s 3)), .msl (.p 1) 0 l.length 2, .t (num (cr)), .t (.v (.slice none 0 0)), .t (num (ct)), .t (bol (false))], ⟨(chL l).map D.t, 64, true, true⟩] (.t (erC 1 q)) [some (boxO 57 [.t (txt (s 0)), .t (txt (s 1)), .t (txt (s 2)), .t (txt (s 3)), .msl (.p 1) 0 l.length 2, .t (num (cr)), .t (.v (.slice none 0 0)), .t (num (ct)), .t (bol (false))]), some ⟨(chL l).map D.t, 64, true, true⟩] [] := by
  refine a_body F.mix func24 (by rfl) ntmps24 ?_
  refine k_seq ?_
  refine k_region rfl ?_
  refine a_op ?_
  refine s_nil (r_false ?_)
  refine q_next ?_
  refine k_seq ?_
  refine k_seq ?_
  refine k_region rfl ?_
  refine a_op ?_
  refine a_op ?_
  refine a_callp [.p 0, .p 1] [] [.p 1] false (up_okR Γ s l cr ct q) ?_
  refine a_op ?_
  refine s_nil (r_false ?_)
  refine q_next ?_
  refine k_seq ?_
  refine k_region rfl ?_
  refine a_op ?_
  refine a_nilnil true ?_
  refine s_nil (r_false ?_)
  refine q_next ?_
  refine a_false ?_
  refine k_skip ?_
  refine q_next ?_
  refine k_seq ?_
  refine k_seq ?_
  refine k_region rfl ?_
  rcases h with h | h
  · skip
    iterate 3 refine a_op ?_
    first | refine a_go ?_ | refine a_no ?_ | refine a_may ?_
    first | refine a_go ?_ | refine a_no ?_ | refine a_may ?_
    refine a_op ?_
    refine s_nil (r_false ?_)
    refine q_next ?_
    refine a_true ?_
    refine k_seq ?_
    refine k_region rfl ?_
    iterate 6 refine a_op ?_
    refine s_nil (r_false ?_)
    refine q_next ?_
    refine k_ret ?_
    refine q_seq_ret ?_
    refine ⟨.inr rfl, a_ret [(.p 0, .p 0), (.p 1, .p 1)] (by rw [results24]) ?_ ?_ ?_⟩ <;> simp [-List.map_set, -List.map_replicate, -List.reduceReplicate, -List.map_map, -List.map_drop, -List.map_take, num, bol, txt, w8, w16, w32, w64, lst, cls, rowO, boxO, List.take_of_length_le, chO, erC_eq]
  · skip
    iterate 3 refine a_op ?_
    first | refine a_go ?_ | refine a_no ?_ | refine a_may ?_
    first | refine a_go ?_ | refine a_no ?_ | refine a_may ?_
    refine a_op ?_
    refine s_nil (r_false ?_)
    refine q_next ?_
    refine a_true ?_
    refine k_seq ?_
    refine k_region rfl ?_
    iterate 6 refine a_op ?_
    refine s_nil (r_false ?_)
    refine q_next ?_
    refine k_ret ?_
    refine q_seq_ret ?_
    refine ⟨.inr rfl, a_ret [(.p 0, .p 0), (.p 1, .p 1)] (by rw [results24]) ?_ ?_ ?_⟩ <;> simp [-List.map_set, -List.map_replicate, -List.reduceReplicate, -List.map_map, -List.map_drop, -List.map_take, num, bol, txt, w8, w16, w32, w64, lst, cls, rowO, boxO, List.take_of_length_le, chO, erC_eq]

theorem ctd_okR (Γ : Gl) (s : St4) (l : Chs) (cr ct : Int) (q : List UInt8)(hb : -4611686018427387904 ≤ ct ∧ ct ≤ 4611686018427387904) (h : ¬ ct + 1 = cr) : Go.Ot.Good Γ prog 25 [.ptr (.p 0) 0, .t (txt q)] [boxO 57 [.t (txt (s 0)), .t (txt (s 1)), .t (txt (s 2)), .t (txt (s 3)), .msl (.p 1) 0 l.length 2, .t (num (cr)), .t (.v (.slice none 0 0)), .t (num (ct)), .t (bol (false))], ⟨(chL l).map D.t, 64, true, true⟩] (.t (.v .nilIface)) [some (boxO 57 [.t (txt (s 0)), .t (txt (s 1)), .t (txt (s 2)), .t (txt (s 3)), .msl (.p 1) 0 l.length 2, .t (num (cr)), .t (.v (.slice none 0 0)), .t (num (ct + 1)), .t (bol (false))]), some ⟨(chL l).map D.t, 64, true, true⟩] [] := by
  refine a_body F.mix func25 (by rfl) ntmps25 ?_
  refine k_seq ?_
  refine k_region rfl ?_
  refine a_op ?_
  refine s_nil (r_false ?_)
  refine q_next ?_
  refine k_seq ?_
  refine k_region rfl ?_
  iterate 8 refine a_op ?_
  refine s_nil (r_false ?_)
  refine q_next ?_
  refine k_seq ?_
  refine k_region rfl ?_
  iterate 14 refine a_opd ?_
  refine s_nil (r_true (by kernel_rfl) ?_)
  refine q_next ?_
  refine k_seq ?_
  refine k_region rfl ?_
  refine a_op ?_
  refine a_op ?_
  refine a_callp [.p 0, .p 1] [] [.p 1] false (up_okR Γ s l cr (ct + 1) q) ?_
  refine a_op ?_
  refine s_nil (r_false ?_)
  refine q_next ?_
  refine k_ret ?_
  refine ⟨.inr rfl, a_ret [(.p 0, .p 0), (.p 1, .p 1)] (by rw [results25]) ?_ ?_ ?_⟩ <;> simp [-List.map_set, -List.map_replicate, -List.reduceReplicate, -List.map_map, -List.map_drop, -List.map_take, num, bol, txt, w8, w16, w32, w64, lst, cls, rowO, boxO, List.take_of_length_le, chO, erC_eq]

theorem ctd_dnR (Γ : Gl) (s : St4) (l : Chs) (cr ct : Int) (q : List UInt8)(hb : -4611686018427387904 ≤ ct ∧ ct ≤ 4611686018427387904) (h : ct + 1 = cr) : Go.Ot.Good Γ prog 25 [.ptr (.p 0) 0, .t (txt q)] [boxO 57 [.t (txt (s 0)), .t (txt (s 1)), .t (txt (s 2)), .t (txt (s 3)), .msl (.p 1) 0 l.length 2, .t (num (cr)), .t (.v (.slice none 0 0)), .t (num (ct)), .t (bol (false))], ⟨(chL l).map D.t, 64, true, true⟩] (.t (erC 13 q)) [some (boxO 57 [.t (txt (s 0)), .t (txt (s 1)), .t (txt (s 2)), .t (txt (s 3)), .msl (.p 1) 0 l.length 2, .t (num (cr)), .t (.v (.slice none 0 0)), .t (num (ct + 1)), .t (bol (true))]), some ⟨(chL l).map D.t, 64, true, true⟩] [] := by
  refine a_body F.mix func25 (by rfl) ntmps25 ?_
  refine k_seq ?_
  refine k_region rfl ?_
  refine a_op ?_
  refine s_nil (r_false ?_)
  refine q_next ?_
  refine k_seq ?_
  refine k_region rfl ?_
  iterate 8 refine a_op ?_
  refine s_nil (r_false ?_)
  refine q_next ?_
  refine k_seq ?_
  refine k_region rfl ?_
  iterate 14 refine a_opd ?_
  refine s_nil (r_true (by kernel_rfl) ?_)
  refine q_next ?_
  refine k_seq ?_
  refine k_region rfl ?_
  refine a_op ?_
  refine a_op ?_
  refine a_callp [.p 0, .p 1] [] [.p 1] false (up_dnR Γ s l cr (ct + 1) q) ?_
  refine a_op ?_
  refine s_nil (r_false ?_)
  refine q_next ?_
  refine k_ret ?_
  refine ⟨.inr rfl, a_ret [(.p 0, .p 0), (.p 1, .p 1)] (by rw [results25]) ?_ ?_ ?_⟩ <;> simp [-List.map_set, -List.map_replicate, -List.reduceReplicate, -List.map_map, -List.map_drop, -List.map_take, num, bol, txt, w8, w16, w32, w64, lst, cls, rowO, boxO, List.take_of_length_le, chO, erC_eq]

theorem num_er (Γ : Gl) (hE : EG Γ) (n : Int) (q : List UInt8) : Go.Ot.Good Γ prog 26 [.t (erC n q)] [] (.t (num n)) [] [] := by
  refine a_body F.mix func26 (by rfl) ntmps26 ?_
  refine k_seq ?_
  refine k_region rfl ?_
  refine a_op ?_
  refine s_nil (r_false ?_)
  refine q_next ?_
  refine k_seq ?_
  refine k_region rfl ?_
  refine a_op ?_
  refine s_nil (r_false ?_)
  refine q_next ?_
  refine k_seq ?_
  refine k_seq ?_
  refine k_region rfl ?_
  refine a_op ?_
  refine a_op ?_
  refine a_callp [.r 1 0 0] [] [] false ((As_good Γ hE [q] n (num 0)).plain1 (erC_plain n q)) ?_
  refine s_nil (r_false ?_)
  refine q_next ?_
  refine a_true ?_
  refine k_seq ?_
  refine k_region rfl ?_
  iterate 3 refine a_op ?_
  refine s_nil (r_false ?_)
  refine q_next ?_
  refine k_ret ?_
  refine q_seq_ret ?_
  refine ⟨.inr rfl, a_ret [] (by rw [results26]) ?_ ?_ ?_⟩ <;> simp [-List.map_set, -List.map_replicate, -List.reduceReplicate, -List.map_map, -List.map_drop, -List.map_take, num, bol, txt, w8, w16, w32, w64, lst, cls, rowO, boxO, List.take_of_length_le]

theorem fresh_good (Γ : Gl) (s : St4) (k : T) (cr ct : Int) (dn : Bool) (c : Int) (kp : T) : Go.Ot.Good Γ prog 23 [.ptr (.p 0) 0, .agg [.t (num c), .t kp]] [boxO 57 [.t (txt (s 0)), .t (txt (s 1)), .t (txt (s 2)), .t (txt (s 3)), .t k, .t (num (cr)), .t (.v (.slice none 0 0)), .t (num (ct)), .t (bol (dn))]] (.tup []) [some (boxO 57 [.t (txt (s 0)), .t (txt (s 1)), .t (txt (s 2)), .t (txt (s 3)), .t (.v (.slice none 0 0)), .t (num (c)), .t (.v (.slice none 0 0)), .t (num (0)), .t (bol (false))])] [] := by
  refine a_body F.mix func23 (by rfl) ntmps23 ?_
  refine k_seq ?_
  refine k_region rfl ?_
  refine a_op ?_
  refine s_nil (r_false ?_)
  refine q_next ?_
  refine k_seq ?_
  refine k_region rfl ?_
  iterate 7 refine a_op ?_
  refine s_nil (r_false ?_)
  refine q_next ?_
  refine k_region rfl ?_
  iterate 12 refine a_op ?_
  refine s_nil (r_false ?_)
  refine ⟨.inl rfl, a_ret [(.p 0, .p 0)] (by rw [results23]) ?_ ?_ ?_⟩ <;> simp [-List.map_set, -List.map_replicate, -List.reduceReplicate, -List.map_map, -List.map_drop, -List.map_take, num, bol, txt, w8, w16, w32, w64, lst, cls, rowO, boxO, List.take_of_length_le]

theorem New_good (Γ : Gl) (c : Int) (kp : T) : Go.Ot.Good Γ prog 8 [.agg [.t (num c), .t kp]] [] (.ptr (.n 0) 0) [] [boxO 57 [.t (txt ((fun _ : Nat => ([] : List UInt8)) 0)), .t (txt ((fun _ : Nat => ([] : List UInt8)) 1)), .t (txt ((fun _ : Nat => ([] : List UInt8)) 2)), .t (txt ((fun _ : Nat => ([] : List UInt8)) 3)), .t (.v (.slice none 0 0)), .t (num (c)), .t (.v (.slice none 0 0)), .t (num (0)), .t (bol (false))]] := by
  refine a_body F.mix func8 (by rfl) ntmps8 ?_
  refine k_seq ?_
  refine k_region rfl ?_
  refine a_op ?_
  refine a_op ?_
  refine s_nil (r_false ?_)
  refine q_next ?_
  refine k_seq ?_
  refine k_region rfl ?_
  iterate 3 refine a_op ?_
  refine s_nil (r_false ?_)
  refine q_next ?_
  refine k_seq ?_
  refine k_region rfl ?_
  refine a_op ?_
  refine a_op ?_
  refine a_callp [.r 1 1 0] [] [] false (fresh_good Γ (fun _ => []) (.v (.slice none 0 0)) 0 0 false c kp) ?_
  refine s_nil (r_false ?_)
  refine q_next ?_
  refine k_seq ?_
  refine k_region rfl ?_
  refine a_op ?_
  refine a_op ?_
  refine s_nil (r_false ?_)
  refine q_next ?_
  refine k_ret ?_
  refine ⟨.inr rfl, a_ret [(.n 0, .r 1 1 0)] (by rw [results8]) ?_ ?_ ?_⟩ <;> simp [-List.map_set, -List.map_replicate, -List.reduceReplicate, -List.map_map, -List.map_drop, -List.map_take, num, bol, txt, w8, w16, w32, w64, lst, cls, rowO, boxO, List.take_of_length_le]

end Go.Proofs.Tryd
