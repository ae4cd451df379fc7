/- Contracts of this program's functions. -/
import Derived.Test.YtnliecfmadifkaaDoorSC2
set_option maxHeartbeats 4000000
set_option maxRecDepth 100000
set_option linter.unusedVariables false
set_option linter.unusedSimpArgs false
namespace Go.Proofs.Tryd
open Go Go.Ot
attribute [local irreducible] wpK wpS seqK blockK loopF regK meetK OpSpec Le nowF
theorem rd_okN (Γ : Gl) (s : St4) (cr ct : Int) (i : Nat) (hi : i < 4) : Go.Ot.Good Γ prog 11 [.ptr (.p 0) 0, .t (num i)] [boxO 57 [.t (txt (s 0)), .t (txt (s 1)), .t (txt (s 2)), .t (txt (s 3)), .t (.v (.slice none 0 0)), .t (num (cr)), .t (.v (.slice none 0 0)), .t (num (ct)), .t (bol (false))]] (.tup [.t (txt ((s) i)), .t (num 0)]) [some (boxO 57 [.t (txt (s 0)), .t (txt (s 1)), .t (txt (s 2)), .t (txt (s 3)), .t (.v (.slice none 0 0)), .t (num (cr)), .t (.v (.slice none 0 0)), .t (num (ct)), .t (bol (false))])] [] := by
  refine a_body F.mix func11 (by rfl) ntmps11 ?_
  refine k_seq ?_
  refine k_region rfl ?_
  refine a_op ?_
  refine a_op ?_
  refine s_nil (r_false ?_)
  refine q_next ?_
  refine k_seq ?_
  refine k_seq ?_
  refine k_region rfl ?_
  refine a_op ?_
  refine a_op ?_
  refine a_callp [.p 0] [] [] false (at_okN Γ s cr ct [114, 101, 97, 100] i (by omega) (by omega)) ?_
  refine a_op ?_
  refine s_nil (r_false ?_)
  refine q_next ?_
  refine k_seq ?_
  refine k_region rfl ?_
  refine a_op ?_
  refine a_nilnil true ?_
  refine s_nil (r_false ?_)
  refine q_next ?_
  refine a_false ?_
  refine k_skip ?_
  refine q_next ?_
  refine k_seq ?_
  refine k_region rfl ?_
  rcases (show i = 0 ∨ i = 1 ∨ i = 2 ∨ i = 3 by omega) with rfl | rfl | rfl | rfl
  · skip
    refine a_op ?_
    refine a_callp [.p 0] [] [] false (nowN Γ s cr ct false) ?_
    iterate 4 refine a_op ?_
    refine s_nil (r_false ?_)
    refine q_next ?_
    refine k_ret ?_
    refine ⟨.inr rfl, a_ret [(.p 0, .p 0)] (by rw [results11]) ?_ ?_ ?_⟩ <;> simp [-List.map_set, -List.map_replicate, -List.reduceReplicate, -List.map_map, -List.map_drop, -List.map_take, num, bol, txt, w8, w16, w32, w64, lst, cls, rowO, boxO, List.take_of_length_le]
  · skip
    refine a_op ?_
    refine a_callp [.p 0] [] [] false (nowN Γ s cr ct false) ?_
    iterate 4 refine a_op ?_
    refine s_nil (r_false ?_)
    refine q_next ?_
    refine k_ret ?_
    refine ⟨.inr rfl, a_ret [(.p 0, .p 0)] (by rw [results11]) ?_ ?_ ?_⟩ <;> simp [-List.map_set, -List.map_replicate, -List.reduceReplicate, -List.map_map, -List.map_drop, -List.map_take, num, bol, txt, w8, w16, w32, w64, lst, cls, rowO, boxO, List.take_of_length_le]
  · skip
    refine a_op ?_
    refine a_callp [.p 0] [] [] false (nowN Γ s cr ct false) ?_
    iterate 4 refine a_op ?_
    refine s_nil (r_false ?_)
    refine q_next ?_
    refine k_ret ?_
    refine ⟨.inr rfl, a_ret [(.p 0, .p 0)] (by rw [results11]) ?_ ?_ ?_⟩ <;> simp [-List.map_set, -List.map_replicate, -List.reduceReplicate, -List.map_map, -List.map_drop, -List.map_take, num, bol, txt, w8, w16, w32, w64, lst, cls, rowO, boxO, List.take_of_length_le]
  · skip
    refine a_op ?_
    refine a_callp [.p 0] [] [] false (nowN Γ s cr ct false) ?_
    iterate 4 refine a_op ?_
    refine s_nil (r_false ?_)
    refine q_next ?_
    refine k_ret ?_
    refine ⟨.inr rfl, a_ret [(.p 0, .p 0)] (by rw [results11]) ?_ ?_ ?_⟩ <;> simp [-List.map_set, -List.map_replicate, -List.reduceReplicate, -List.map_map, -List.map_drop, -List.map_take, num, bol, txt, w8, w16, w32, w64, lst, cls, rowO, boxO, List.take_of_length_le]

theorem rd_dnN (Γ : Gl) (hE : EG Γ) (s : St4) (cr ct : Int) (i : Int) : Go.Ot.Good Γ prog 11 [.ptr (.p 0) 0, .t (num i)] [boxO 57 [.t (txt (s 0)), .t (txt (s 1)), .t (txt (s 2)), .t (txt (s 3)), .t (.v (.slice none 0 0)), .t (num (cr)), .t (.v (.slice none 0 0)), .t (num (ct)), .t (bol (true))]] (.tup [.t (txt ([])), .t (num 13)]) [some (boxO 57 [.t (txt (s 0)), .t (txt (s 1)), .t (txt (s 2)), .t (txt (s 3)), .t (.v (.slice none 0 0)), .t (num (cr)), .t (.v (.slice none 0 0)), .t (num (ct)), .t (bol (true))])] [] := by
  refine a_body F.mix func11 (by rfl) ntmps11 ?_
  refine k_seq ?_
  refine k_region rfl ?_
  refine a_op ?_
  refine a_op ?_
  refine s_nil (r_false ?_)
  refine q_next ?_
  refine k_seq ?_
  refine k_seq ?_
  refine k_region rfl ?_
  refine a_op ?_
  refine a_op ?_
  refine a_callp [.p 0] [] [] false (at_dnN Γ s cr ct [114, 101, 97, 100] i) ?_
  refine a_op ?_
  refine s_nil (r_false ?_)
  refine q_next ?_
  refine k_seq ?_
  refine k_region rfl ?_
  refine a_op ?_
  refine a_isnil true ?_
  refine s_nil (r_false ?_)
  refine q_next ?_
  refine a_true ?_
  refine k_seq ?_
  refine k_region rfl ?_
  refine a_op ?_
  refine a_call [] false (num_er Γ hE 13 [114, 101, 97, 100]) ?_
  refine a_op ?_
  refine a_op ?_
  refine s_nil (r_false ?_)
  refine q_next ?_
  refine k_ret ?_
  refine q_seq_ret ?_
  refine ⟨.inr rfl, a_ret [(.p 0, .p 0)] (by rw [results11]) ?_ ?_ ?_⟩ <;> simp [-List.map_set, -List.map_replicate, -List.reduceReplicate, -List.map_map, -List.map_drop, -List.map_take, num, bol, txt, w8, w16, w32, w64, lst, cls, rowO, boxO, List.take_of_length_le]

theorem rd_argN (Γ : Gl) (hE : EG Γ) (s : St4) (cr ct : Int) (i : Int) (h : i < 0 ∨ 4 ≤ i) : Go.Ot.Good Γ prog 11 [.ptr (.p 0) 0, .t (num i)] [boxO 57 [.t (txt (s 0)), .t (txt (s 1)), .t (txt (s 2)), .t (txt (s 3)), .t (.v (.slice none 0 0)), .t (num (cr)), .t (.v (.slice none 0 0)), .t (num (ct)), .t (bol (false))]] (.tup [.t (txt ([])), .t (num 1)]) [some (boxO 57 [.t (txt (s 0)), .t (txt (s 1)), .t (txt (s 2)), .t (txt (s 3)), .t (.v (.slice none 0 0)), .t (num (cr)), .t (.v (.slice none 0 0)), .t (num (ct)), .t (bol (false))])] [] := by
  refine a_body F.mix func11 (by rfl) ntmps11 ?_
  refine k_seq ?_
  refine k_region rfl ?_
  refine a_op ?_
  refine a_op ?_
  refine s_nil (r_false ?_)
  refine q_next ?_
  refine k_seq ?_
  refine k_seq ?_
  refine k_region rfl ?_
  refine a_op ?_
  refine a_op ?_
  refine a_callp [.p 0] [] [] false (at_argN Γ s cr ct [114, 101, 97, 100] i h) ?_
  refine a_op ?_
  refine s_nil (r_false ?_)
  refine q_next ?_
  refine k_seq ?_
  refine k_region rfl ?_
  refine a_op ?_
  refine a_isnil true ?_
  refine s_nil (r_false ?_)
  refine q_next ?_
  refine a_true ?_
  refine k_seq ?_
  refine k_region rfl ?_
  refine a_op ?_
  refine a_call [] false (num_er Γ hE 1 [114, 101, 97, 100]) ?_
  refine a_op ?_
  refine a_op ?_
  refine s_nil (r_false ?_)
  refine q_next ?_
  refine k_ret ?_
  refine q_seq_ret ?_
  refine ⟨.inr rfl, a_ret [(.p 0, .p 0)] (by rw [results11]) ?_ ?_ ?_⟩ <;> simp [-List.map_set, -List.map_replicate, -List.reduceReplicate, -List.map_map, -List.map_drop, -List.map_take, num, bol, txt, w8, w16, w32, w64, lst, cls, rowO, boxO, List.take_of_length_le]

theorem looseN (Γ : Gl) (s : St4) (cr ct : Int) (dn : Bool) : Go.Ot.Good Γ prog 13 [.ptr (.p 0) 0] [boxO 57 [.t (txt (s 0)), .t (txt (s 1)), .t (txt (s 2)), .t (txt (s 3)), .t (.v (.slice none 0 0)), .t (num (cr)), .t (.v (.slice none 0 0)), .t (num (ct)), .t (bol (dn))]] (.t (num 0)) [some (boxO 57 [.t (txt (s 0)), .t (txt (s 1)), .t (txt (s 2)), .t (txt (s 3)), .t (.v (.slice none 0 0)), .t (num (cr)), .t (.v (.slice none 0 0)), .t (num (ct)), .t (bol (dn))])] [] := by
  refine a_body F.mix func13 (by rfl) ntmps13 ?_
  refine k_seq ?_
  refine k_region rfl ?_
  refine a_op ?_
  refine s_nil (r_false ?_)
  refine q_next ?_
  refine k_seq ?_
  refine k_seq ?_
  refine k_region rfl ?_
  refine a_op ?_
  refine a_by (spec_ptrNil false rfl rfl (by kernel_rfl)) ?_
  refine s_nil (r_false ?_)
  refine q_next ?_
  refine a_false ?_
  refine k_skip ?_
  refine q_next ?_
  refine k_seq ?_
  refine k_region rfl ?_
  iterate 6 refine a_op ?_
  refine s_nil (r_false ?_)
  refine q_next ?_
  refine k_ret ?_
  refine ⟨.inr rfl, a_ret [(.p 0, .p 0)] (by rw [results13]) ?_ ?_ ?_⟩ <;> simp [-List.map_set, -List.map_replicate, -List.reduceReplicate, -List.map_map, -List.map_drop, -List.map_take, num, bol, txt, w8, w16, w32, w64, lst, cls, rowO, boxO, List.take_of_length_le]

theorem downN (Γ : Gl) (s : St4) (cr ct : Int) (dn : Bool) : Go.Ot.Good Γ prog 22 [.ptr (.p 0) 0] [boxO 57 [.t (txt (s 0)), .t (txt (s 1)), .t (txt (s 2)), .t (txt (s 3)), .t (.v (.slice none 0 0)), .t (num (cr)), .t (.v (.slice none 0 0)), .t (num (ct)), .t (bol (dn))]] (.t (bol dn)) [some (boxO 57 [.t (txt (s 0)), .t (txt (s 1)), .t (txt (s 2)), .t (txt (s 3)), .t (.v (.slice none 0 0)), .t (num (cr)), .t (.v (.slice none 0 0)), .t (num (ct)), .t (bol (dn))])] [] := by
  refine a_body F.mix func22 (by rfl) ntmps22 ?_
  refine k_seq ?_
  refine k_region rfl ?_
  refine a_op ?_
  refine s_nil (r_false ?_)
  refine q_next ?_
  refine k_seq ?_
  refine k_region rfl ?_
  refine a_op ?_
  refine a_by (spec_ptrNil true rfl rfl (by kernel_rfl)) ?_
  refine a_op ?_
  refine a_go ?_
  refine a_go ?_
  refine a_go ?_
  refine a_go ?_
  refine a_op ?_
  refine a_op ?_
  refine s_nil (r_false ?_)
  refine q_next ?_
  refine k_ret ?_
  refine ⟨.inr rfl, a_ret [(.p 0, .p 0)] (by rw [results22]) ?_ ?_ ?_⟩ <;> simp [-List.map_set, -List.map_replicate, -List.reduceReplicate, -List.map_map, -List.map_drop, -List.map_take, num, bol, txt, w8, w16, w32, w64, lst, cls, rowO, boxO, List.take_of_length_le]

theorem tearN (Γ : Gl) (s : St4) (cr ct : Int) (dn : Bool) (n : Int) : Go.Ot.Good Γ prog 18 [.ptr (.p 0) 0, .t (num n)] [boxO 57 [.t (txt (s 0)), .t (txt (s 1)), .t (txt (s 2)), .t (txt (s 3)), .t (.v (.slice none 0 0)), .t (num (cr)), .t (.v (.slice none 0 0)), .t (num (ct)), .t (bol (dn))]] (.tup []) [some (boxO 57 [.t (txt (s 0)), .t (txt (s 1)), .t (txt (s 2)), .t (txt (s 3)), .t (.v (.slice none 0 0)), .t (num (n)), .t (.v (.slice none 0 0)), .t (num (0)), .t (bol (dn))])] [] := by
  refine a_body F.mix func18 (by rfl) ntmps18 ?_
  refine k_seq ?_
  refine k_region rfl ?_
  refine a_op ?_
  refine a_by (spec_ptrNil true rfl rfl (by kernel_rfl)) ?_
  refine s_nil (r_false ?_)
  refine q_next ?_
  refine a_true ?_
  refine k_region rfl ?_
  iterate 10 refine a_op ?_
  refine s_nil (r_false ?_)
  refine ⟨.inl rfl, a_ret [(.p 0, .p 0)] (by rw [results18]) ?_ ?_ ?_⟩ <;> simp [-List.map_set, -List.map_replicate, -List.reduceReplicate, -List.map_map, -List.map_drop, -List.map_take, num, bol, txt, w8, w16, w32, w64, lst, cls, rowO, boxO, List.take_of_length_le]

theorem rd_okR (Γ : Gl) (s : St4) (l : Chs) (hl : l.length ≤ 1000000) (h4 : In4 l) (cr ct : Int) (i : Nat) (hi : i < 4) : Go.Ot.Good Γ prog 11 [.ptr (.p 0) 0, .t (num i)] [boxO 57 [.t (txt (s 0)), .t (txt (s 1)), .t (txt (s 2)), .t (txt (s 3)), .msl (.p 1) 0 l.length 2, .t (num (cr)), .t (.v (.slice none 0 0)), .t (num (ct)), .t (bol (false))], ⟨(chL l).map D.t, 64, true, true⟩] (.tup [.t (txt ((nowF s l) i)), .t (num 0)]) [some (boxO 57 [.t (txt (s 0)), .t (txt (s 1)), .t (txt (s 2)), .t (txt (s 3)), .msl (.p 1) 0 l.length 2, .t (num (cr)), .t (.v (.slice none 0 0)), .t (num (ct)), .t (bol (false))]), some ⟨(chL l).map D.t, 64, true, true⟩] [] := by
  refine a_body F.mix func11 (by rfl) ntmps11 ?_
  refine k_seq ?_
  refine k_region rfl ?_
  refine a_op ?_
  refine a_op ?_
  refine s_nil (r_false ?_)
  refine q_next ?_
  refine k_seq ?_
  refine k_seq ?_
  refine k_region rfl ?_
  refine a_op ?_
  refine a_op ?_
  refine a_callp [.p 0, .p 1] [] [.p 1] false (at_okR Γ s l cr ct [114, 101, 97, 100] i (by omega) (by omega)) ?_
  refine a_op ?_
  refine s_nil (r_false ?_)
  refine q_next ?_
  refine k_seq ?_
  refine k_region rfl ?_
  refine a_op ?_
  refine a_nilnil true ?_
  refine s_nil (r_false ?_)
  refine q_next ?_
  refine a_false ?_
  refine k_skip ?_
  refine q_next ?_
  refine k_seq ?_
  refine k_region rfl ?_
  rcases (show i = 0 ∨ i = 1 ∨ i = 2 ∨ i = 3 by omega) with rfl | rfl | rfl | rfl
  · skip
    refine a_op ?_
    refine a_callp [.p 0, .p 1] [] [.p 1] false (nowR Γ s l hl h4 cr ct false) ?_
    iterate 4 refine a_op ?_
    refine s_nil (r_false ?_)
    refine q_next ?_
    refine k_ret ?_
    refine ⟨.inr rfl, a_ret [(.p 0, .p 0), (.p 1, .p 1)] (by rw [results11]) ?_ ?_ ?_⟩ <;> simp [-List.map_set, -List.map_replicate, -List.reduceReplicate, -List.map_map, -List.map_drop, -List.map_take, num, bol, txt, w8, w16, w32, w64, lst, cls, rowO, boxO, List.take_of_length_le]
  · skip
    refine a_op ?_
    refine a_callp [.p 0, .p 1] [] [.p 1] false (nowR Γ s l hl h4 cr ct false) ?_
    iterate 4 refine a_op ?_
    refine s_nil (r_false ?_)
    refine q_next ?_
    refine k_ret ?_
    refine ⟨.inr rfl, a_ret [(.p 0, .p 0), (.p 1, .p 1)] (by rw [results11]) ?_ ?_ ?_⟩ <;> simp [-List.map_set, -List.map_replicate, -List.reduceReplicate, -List.map_map, -List.map_drop, -List.map_take, num, bol, txt, w8, w16, w32, w64, lst, cls, rowO, boxO, List.take_of_length_le]
  · skip
    refine a_op ?_
    refine a_callp [.p 0, .p 1] [] [.p 1] false (nowR Γ s l hl h4 cr ct false) ?_
    iterate 4 refine a_op ?_
    refine s_nil (r_false ?_)
    refine q_next ?_
    refine k_ret ?_
    refine ⟨.inr rfl, a_ret [(.p 0, .p 0), (.p 1, .p 1)] (by rw [results11]) ?_ ?_ ?_⟩ <;> simp [-List.map_set, -List.map_replicate, -List.reduceReplicate, -List.map_map, -List.map_drop, -List.map_take, num, bol, txt, w8, w16, w32, w64, lst, cls, rowO, boxO, List.take_of_length_le]
  · skip
    refine a_op ?_
    refine a_callp [.p 0, .p 1] [] [.p 1] false (nowR Γ s l hl h4 cr ct false) ?_
    iterate 4 refine a_op ?_
    refine s_nil (r_false ?_)
    refine q_next ?_
    refine k_ret ?_
    refine ⟨.inr rfl, a_ret [(.p 0, .p 0), (.p 1, .p 1)] (by rw [results11]) ?_ ?_ ?_⟩ <;> simp [-List.map_set, -List.map_replicate, -List.reduceReplicate, -List.map_map, -List.map_drop, -List.map_take, num, bol, txt, w8, w16, w32, w64, lst, cls, rowO, boxO, List.take_of_length_le]

theorem rd_dnR (Γ : Gl) (hE : EG Γ) (s : St4) (l : Chs) (hl : l.length ≤ 1000000) (h4 : In4 l) (cr ct : Int) (i : Int) : Go.Ot.Good Γ prog 11 [.ptr (.p 0) 0, .t (num i)] [boxO 57 [.t (txt (s 0)), .t (txt (s 1)), .t (txt (s 2)), .t (txt (s 3)), .msl (.p 1) 0 l.length 2, .t (num (cr)), .t (.v (.slice none 0 0)), .t (num (ct)), .t (bol (true))], ⟨(chL l).map D.t, 64, true, true⟩] (.tup [.t (txt ([])), .t (num 13)]) [some (boxO 57 [.t (txt (s 0)), .t (txt (s 1)), .t (txt (s 2)), .t (txt (s 3)), .msl (.p 1) 0 l.length 2, .t (num (cr)), .t (.v (.slice none 0 0)), .t (num (ct)), .t (bol (true))]), some ⟨(chL l).map D.t, 64, true, true⟩] [] := by
  refine a_body F.mix func11 (by rfl) ntmps11 ?_
  refine k_seq ?_
  refine k_region rfl ?_
  refine a_op ?_
  refine a_op ?_
  refine s_nil (r_false ?_)
  refine q_next ?_
  refine k_seq ?_
  refine k_seq ?_
  refine k_region rfl ?_
  refine a_op ?_
  refine a_op ?_
  refine a_callp [.p 0, .p 1] [] [.p 1] false (at_dnR Γ s l cr ct [114, 101, 97, 100] i) ?_
  refine a_op ?_
  refine s_nil (r_false ?_)
  refine q_next ?_
  refine k_seq ?_
  refine k_region rfl ?_
  refine a_op ?_
  refine a_isnil true ?_
  refine s_nil (r_false ?_)
  refine q_next ?_
  refine a_true ?_
  refine k_seq ?_
  refine k_region rfl ?_
  refine a_op ?_
  refine a_call [] false (num_er Γ hE 13 [114, 101, 97, 100]) ?_
  refine a_op ?_
  refine a_op ?_
  refine s_nil (r_false ?_)
  refine q_next ?_
  refine k_ret ?_
  refine q_seq_ret ?_
  refine ⟨.inr rfl, a_ret [(.p 0, .p 0), (.p 1, .p 1)] (by rw [results11]) ?_ ?_ ?_⟩ <;> simp [-List.map_set, -List.map_replicate, -List.reduceReplicate, -List.map_map, -List.map_drop, -List.map_take, num, bol, txt, w8, w16, w32, w64, lst, cls, rowO, boxO, List.take_of_length_le]

theorem rd_argR (Γ : Gl) (hE : EG Γ) (s : St4) (l : Chs) (hl : l.length ≤ 1000000) (h4 : In4 l) (cr ct : Int) (i : Int) (h : i < 0 ∨ 4 ≤ i) : Go.Ot.Good Γ prog 11 [.ptr (.p 0) 0, .t (num i)] [boxO 57 [.t (txt (s 0)), .t (txt (s 1)), .t (txt (s 2)), .t (txt (s 3)), .msl (.p 1) 0 l.length 2, .t (num (cr)), .t (.v (.slice none 0 0)), .t (num (ct)), .t (bol (false))], ⟨(chL l).map D.t, 64, true, true⟩] (.tup [.t (txt ([])), .t (num 1)]) [some (boxO 57 [.t (txt (s 0)), .t (txt (s 1)), .t (txt (s 2)), .t (txt (s 3)), .msl (.p 1) 0 l.length 2, .t (num (cr)), .t (.v (.slice none 0 0)), .t (num (ct)), .t (bol (false))]), some ⟨(chL l).map D.t, 64, true, true⟩] [] := by
  refine a_body F.mix func11 (by rfl) ntmps11 ?_
  refine k_seq ?_
  refine k_region rfl ?_
  refine a_op ?_
  refine a_op ?_
  refine s_nil (r_false ?_)
  refine q_next ?_
  refine k_seq ?_
  refine k_seq ?_
  refine k_region rfl ?_
  refine a_op ?_
  refine a_op ?_
  refine a_callp [.p 0, .p 1] [] [.p 1] false (at_argR Γ s l cr ct [114, 101, 97, 100] i h) ?_
  refine a_op ?_
  refine s_nil (r_false ?_)
  refine q_next ?_
  refine k_seq ?_
  refine k_region rfl ?_
  refine a_op ?_
  refine a_isnil true ?_
  refine s_nil (r_false ?_)
  refine q_next ?_
  refine a_true ?_
  refine k_seq ?_
  refine k_region rfl ?_
  refine a_op ?_
  refine a_call [] false (num_er Γ hE 1 [114, 101, 97, 100]) ?_
  refine a_op ?_
  refine a_op ?_
  refine s_nil (r_false ?_)
  refine q_next ?_
  refine k_ret ?_
  refine q_seq_ret ?_
  refine ⟨.inr rfl, a_ret [(.p 0, .p 0), (.p 1, .p 1)] (by rw [results11]) ?_ ?_ ?_⟩ <;> simp [-List.map_set, -List.map_replicate, -List.reduceReplicate, -List.map_map, -List.map_drop, -List.map_take, num, bol, txt, w8, w16, w32, w64, lst, cls, rowO, boxO, List.take_of_length_le]

theorem looseR (Γ : Gl) (s : St4) (l : Chs) (hl : l.length ≤ 1000000) (h4 : In4 l) (cr ct : Int) (dn : Bool) : Go.Ot.Good Γ prog 13 [.ptr (.p 0) 0] [boxO 57 [.t (txt (s 0)), .t (txt (s 1)), .t (txt (s 2)), .t (txt (s 3)), .msl (.p 1) 0 l.length 2, .t (num (cr)), .t (.v (.slice none 0 0)), .t (num (ct)), .t (bol (dn))], ⟨(chL l).map D.t, 64, true, true⟩] (.t (num l.length)) [some (boxO 57 [.t (txt (s 0)), .t (txt (s 1)), .t (txt (s 2)), .t (txt (s 3)), .msl (.p 1) 0 l.length 2, .t (num (cr)), .t (.v (.slice none 0 0)), .t (num (ct)), .t (bol (dn))]), some ⟨(chL l).map D.t, 64, true, true⟩] [] := by
  refine a_body F.mix func13 (by rfl) ntmps13 ?_
  refine k_seq ?_
  refine k_region rfl ?_
  refine a_op ?_
  refine s_nil (r_false ?_)
  refine q_next ?_
  refine k_seq ?_
  refine k_seq ?_
  refine k_region rfl ?_
  refine a_op ?_
  refine a_by (spec_ptrNil false rfl rfl (by kernel_rfl)) ?_
  refine s_nil (r_false ?_)
  refine q_next ?_
  refine a_false ?_
  refine k_skip ?_
  refine q_next ?_
  refine k_seq ?_
  refine k_region rfl ?_
  iterate 6 refine a_op ?_
  refine s_nil (r_false ?_)
  refine q_next ?_
  refine k_ret ?_
  refine ⟨.inr rfl, a_ret [(.p 0, .p 0), (.p 1, .p 1)] (by rw [results13]) ?_ ?_ ?_⟩ <;> simp [-List.map_set, -List.map_replicate, -List.reduceReplicate, -List.map_map, -List.map_drop, -List.map_take, num, bol, txt, w8, w16, w32, w64, lst, cls, rowO, boxO, List.take_of_length_le]

theorem downR (Γ : Gl) (s : St4) (l : Chs) (hl : l.length ≤ 1000000) (h4 : In4 l) (cr ct : Int) (dn : Bool) : Go.Ot.Good Γ prog 22 [.ptr (.p 0) 0] [boxO 57 [.t (txt (s 0)), .t (txt (s 1)), .t (txt (s 2)), .t (txt (s 3)), .msl (.p 1) 0 l.length 2, .t (num (cr)), .t (.v (.slice none 0 0)), .t (num (ct)), .t (bol (dn))], ⟨(chL l).map D.t, 64, true, true⟩] (.t (bol dn)) [some (boxO 57 [.t (txt (s 0)), .t (txt (s 1)), .t (txt (s 2)), .t (txt (s 3)), .msl (.p 1) 0 l.length 2, .t (num (cr)), .t (.v (.slice none 0 0)), .t (num (ct)), .t (bol (dn))]), some ⟨(chL l).map D.t, 64, true, true⟩] [] := by
  refine a_body F.mix func22 (by rfl) ntmps22 ?_
  refine k_seq ?_
  refine k_region rfl ?_
  refine a_op ?_
  refine s_nil (r_false ?_)
  refine q_next ?_
  refine k_seq ?_
  refine k_region rfl ?_
  refine a_op ?_
  refine a_by (spec_ptrNil true rfl rfl (by kernel_rfl)) ?_
  refine a_op ?_
  refine a_go ?_
  refine a_go ?_
  refine a_go ?_
  refine a_go ?_
  refine a_op ?_
  refine a_op ?_
  refine s_nil (r_false ?_)
  refine q_next ?_
  refine k_ret ?_
  refine ⟨.inr rfl, a_ret [(.p 0, .p 0), (.p 1, .p 1)] (by rw [results22]) ?_ ?_ ?_⟩ <;> simp [-List.map_set, -List.map_replicate, -List.reduceReplicate, -List.map_map, -List.map_drop, -List.map_take, num, bol, txt, w8, w16, w32, w64, lst, cls, rowO, boxO, List.take_of_length_le]

theorem tearR (Γ : Gl) (s : St4) (l : Chs) (hl : l.length ≤ 1000000) (h4 : In4 l) (cr ct : Int) (dn : Bool) (n : Int) : Go.Ot.Good Γ prog 18 [.ptr (.p 0) 0, .t (num n)] [boxO 57 [.t (txt (s 0)), .t (txt (s 1)), .t (txt (s 2)), .t (txt (s 3)), .msl (.p 1) 0 l.length 2, .t (num (cr)), .t (.v (.slice none 0 0)), .t (num (ct)), .t (bol (dn))], ⟨(chL l).map D.t, 64, true, true⟩] (.tup []) [some (boxO 57 [.t (txt (s 0)), .t (txt (s 1)), .t (txt (s 2)), .t (txt (s 3)), .msl (.p 1) 0 l.length 2, .t (num (n)), .t (.v (.slice none 0 0)), .t (num (0)), .t (bol (dn))]), some ⟨(chL l).map D.t, 64, true, true⟩] [] := by
  refine a_body F.mix func18 (by rfl) ntmps18 ?_
  refine k_seq ?_
  refine k_region rfl ?_
  refine a_op ?_
  refine a_by (spec_ptrNil true rfl rfl (by kernel_rfl)) ?_
  refine s_nil (r_false ?_)
  refine q_next ?_
  refine a_true ?_
  refine k_region rfl ?_
  iterate 10 refine a_op ?_
  refine s_nil (r_false ?_)
  refine ⟨.inl rfl, a_ret [(.p 0, .p 0), (.p 1, .p 1)] (by rw [results18]) ?_ ?_ ?_⟩ <;> simp [-List.map_set, -List.map_replicate, -List.reduceReplicate, -List.map_map, -List.map_drop, -List.map_take, num, bol, txt, w8, w16, w32, w64, lst, cls, rowO, boxO, List.take_of_length_le]

end Go.Proofs.Tryd
