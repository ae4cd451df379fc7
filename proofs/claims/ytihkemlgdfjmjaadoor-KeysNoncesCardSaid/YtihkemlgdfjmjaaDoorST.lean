import Derived.Test.YtihkemlgdfjmjaaDoorSF
import Derived.Test.YtihkemlgdfjmjaaDoorOtPtr
import Derived.Test.YtihkemlgdfjmjaaDoorOtCopy
set_option maxHeartbeats 4000000
set_option maxRecDepth 100000
set_option linter.unusedVariables false
set_option linter.unusedSimpArgs false
namespace Go.Proofs.Tryd
open Go Go.Ot
attribute [local irreducible] wpK wpS seqK blockK loopF regK meetK OpSpec Le
theorem check0_good (Γ : Gl) (l : List UInt8) : Go.Ot.Good Γ prog 41 [.ptr (.p 0) 0] [boxO 46 [.t (.v (.pointer none)), .msl (.p 1) 0 l.length 1], rowO 5 w8 (l)] (.tup []) [some (boxO 46 [.ptr (.p 0) 0, .msl (.p 1) 0 l.length 1]), some (rowO 5 w8 (l))] [] := by
  refine a_body F.mix func41 (by rfl) ntmps41 ?_
  refine k_seq ?_
  refine k_region rfl ?_
  iterate 4 refine a_op ?_
  refine a_plain (.bool true) ?_
  refine s_nil (r_false ?_)
  refine q_next ?_
  refine a_true ?_
  refine k_region rfl ?_
  refine a_op ?_
  refine a_op ?_
  refine a_by (spec_toUnsafe rfl rfl (ob := boxO 46 [.t (.v (.pointer none)), .msl (.p 1) 0 l.length 1]) rfl (by simp [boxO]) underlying44 underlying87 (by kernel_rfl)) ?_
  refine a_by (spec_extSame rfl (fun v w => by rw [run_callFunc_extern func51 (by kernel_rfl) (by kernel_rfl) (by kernel_rfl) (e := Extern.AbiNoEscape.same) (by kernel_rfl)]; rfl)) ?_
  refine a_by (spec_fromUnsafe rfl rfl (ob := boxO 46 [.t (.v (.pointer none)), .msl (.p 1) 0 l.length 1]) rfl rfl (by simp [boxO, looseT]) underlying87 underlying44 (by kernel_rfl) (by kernel_rfl)) ?_
  iterate 3 refine a_op ?_
  refine s_nil (r_false ?_)
  refine ⟨.inl rfl, a_ret [(.p 0, .p 0), (.p 1, .p 1)] (by rw [results41]) ?_ ?_ ?_⟩ <;> simp [-List.map_set, -List.map_replicate, -List.reduceReplicate, -List.map_map, -List.map_drop, -List.map_take, num, bol, txt, w8, w16, w32, w64, lst, cls, rowO, boxO, List.take_of_length_le]

theorem len0_good (Γ : Gl) (l : List UInt8) : Go.Ot.Good Γ prog 30 [.ptr (.p 0) 0] [boxO 46 [.t (.v (.pointer none)), .msl (.p 1) 0 l.length 1], rowO 5 w8 (l)] (.t (num l.length)) [some (boxO 46 [.t (.v (.pointer none)), .msl (.p 1) 0 l.length 1]), some (rowO 5 w8 (l))] [] := by
  refine a_body F.mix func30 (by rfl) ntmps30 ?_
  refine k_seq ?_
  refine k_region rfl ?_
  refine a_op ?_
  refine s_nil (r_false ?_)
  refine q_next ?_
  refine k_seq ?_
  refine k_region rfl ?_
  iterate 6 refine a_op ?_
  refine s_nil (r_false ?_)
  refine q_next ?_
  refine k_ret ?_
  refine ⟨.inr rfl, a_ret [(.p 0, .p 0), (.p 1, .p 1)] (by rw [results30]) ?_ ?_ ?_⟩ <;> simp [-List.map_set, -List.map_replicate, -List.reduceReplicate, -List.map_map, -List.map_drop, -List.map_take, num, bol, txt, w8, w16, w32, w64, lst, cls, rowO, boxO, List.take_of_length_le]

theorem write0_good (Γ : Gl) (l s : List UInt8) (hl : l.length ≤ 100000000) (hs : s.length ≤ 100000000) : Go.Ot.Good Γ prog 31 [.ptr (.p 0) 0, .t (txt s)] [boxO 46 [.t (.v (.pointer none)), .msl (.p 1) 0 l.length 1], rowO 5 w8 (l)] (.tup [.t (num s.length), .t (.v .nilIface)]) [some (boxO 46 [.ptr (.p 0) 0, .msl (.p 1) 0 (l ++ s).length 1]), some (rowO 5 w8 (l ++ s))] [] := by
  refine a_body F.mix func31 (by rfl) ntmps31 ?_
  refine k_seq ?_
  refine k_region rfl ?_
  refine a_op ?_
  refine a_op ?_
  refine s_nil (r_false ?_)
  refine q_next ?_
  refine k_seq ?_
  refine k_region rfl ?_
  refine a_op ?_
  refine a_callp [.p 0, .p 1] [] [.p 1] false (check0_good Γ l) ?_
  refine s_nil (r_false ?_)
  refine q_next ?_
  refine k_seq ?_
  refine k_region rfl ?_
  iterate 10 refine a_op ?_
  refine s_nil (r_false ?_)
  refine q_next ?_
  refine k_seq ?_
  refine k_region rfl ?_
  iterate 4 refine a_op ?_
  refine s_nil (r_false ?_)
  refine q_next ?_
  refine k_ret ?_
  refine ⟨.inr rfl, a_ret [(.p 0, .p 0), (.p 1, .p 1)] (by rw [results31]) ?_ ?_ ?_⟩ <;> simp [-List.map_set, -List.map_replicate, -List.reduceReplicate, -List.map_map, -List.map_drop, -List.map_take, num, bol, txt, w8, w16, w32, w64, lst, cls, rowO, boxO, List.take_of_length_le]

theorem check1_good (Γ : Gl) (l : List UInt8) : Go.Ot.Good Γ prog 41 [.ptr (.p 0) 0] [boxO 46 [.ptr (.p 0) 0, .msl (.p 1) 0 l.length 1], rowO 5 w8 (l)] (.tup []) [some (boxO 46 [.ptr (.p 0) 0, .msl (.p 1) 0 l.length 1]), some (rowO 5 w8 (l))] [] := by
  refine a_body F.mix func41 (by rfl) ntmps41 ?_
  refine k_seq ?_
  refine k_region rfl ?_
  iterate 4 refine a_op ?_
  refine a_by (spec_ptrNil false rfl rfl (by kernel_rfl)) ?_
  refine s_nil (r_false ?_)
  refine q_next ?_
  refine a_false ?_
  refine k_seq ?_
  refine k_region rfl ?_
  iterate 5 refine a_op ?_
  refine a_by (spec_ptrSame rfl rfl rfl underlying44 (by kernel_rfl)) ?_
  refine s_nil (r_false ?_)
  refine q_next ?_
  refine a_false ?_
  refine k_skip ?_
  refine ⟨.inl rfl, a_ret [(.p 0, .p 0), (.p 1, .p 1)] (by rw [results41]) ?_ ?_ ?_⟩ <;> simp [-List.map_set, -List.map_replicate, -List.reduceReplicate, -List.map_map, -List.map_drop, -List.map_take, num, bol, txt, w8, w16, w32, w64, lst, cls, rowO, boxO, List.take_of_length_le]

theorem len1_good (Γ : Gl) (l : List UInt8) : Go.Ot.Good Γ prog 30 [.ptr (.p 0) 0] [boxO 46 [.ptr (.p 0) 0, .msl (.p 1) 0 l.length 1], rowO 5 w8 (l)] (.t (num l.length)) [some (boxO 46 [.ptr (.p 0) 0, .msl (.p 1) 0 l.length 1]), some (rowO 5 w8 (l))] [] := by
  refine a_body F.mix func30 (by rfl) ntmps30 ?_
  refine k_seq ?_
  refine k_region rfl ?_
  refine a_op ?_
  refine s_nil (r_false ?_)
  refine q_next ?_
  refine k_seq ?_
  refine k_region rfl ?_
  iterate 6 refine a_op ?_
  refine s_nil (r_false ?_)
  refine q_next ?_
  refine k_ret ?_
  refine ⟨.inr rfl, a_ret [(.p 0, .p 0), (.p 1, .p 1)] (by rw [results30]) ?_ ?_ ?_⟩ <;> simp [-List.map_set, -List.map_replicate, -List.reduceReplicate, -List.map_map, -List.map_drop, -List.map_take, num, bol, txt, w8, w16, w32, w64, lst, cls, rowO, boxO, List.take_of_length_le]

theorem write1_good (Γ : Gl) (l s : List UInt8) (hl : l.length ≤ 100000000) (hs : s.length ≤ 100000000) : Go.Ot.Good Γ prog 31 [.ptr (.p 0) 0, .t (txt s)] [boxO 46 [.ptr (.p 0) 0, .msl (.p 1) 0 l.length 1], rowO 5 w8 (l)] (.tup [.t (num s.length), .t (.v .nilIface)]) [some (boxO 46 [.ptr (.p 0) 0, .msl (.p 1) 0 (l ++ s).length 1]), some (rowO 5 w8 (l ++ s))] [] := by
  refine a_body F.mix func31 (by rfl) ntmps31 ?_
  refine k_seq ?_
  refine k_region rfl ?_
  refine a_op ?_
  refine a_op ?_
  refine s_nil (r_false ?_)
  refine q_next ?_
  refine k_seq ?_
  refine k_region rfl ?_
  refine a_op ?_
  refine a_callp [.p 0, .p 1] [] [.p 1] false (check1_good Γ l) ?_
  refine s_nil (r_false ?_)
  refine q_next ?_
  refine k_seq ?_
  refine k_region rfl ?_
  iterate 10 refine a_op ?_
  refine s_nil (r_false ?_)
  refine q_next ?_
  refine k_seq ?_
  refine k_region rfl ?_
  iterate 4 refine a_op ?_
  refine s_nil (r_false ?_)
  refine q_next ?_
  refine k_ret ?_
  refine ⟨.inr rfl, a_ret [(.p 0, .p 0), (.p 1, .p 1)] (by rw [results31]) ?_ ?_ ?_⟩ <;> simp [-List.map_set, -List.map_replicate, -List.reduceReplicate, -List.map_map, -List.map_drop, -List.map_take, num, bol, txt, w8, w16, w32, w64, lst, cls, rowO, boxO, List.take_of_length_le]

theorem string_good (Γ : Gl) (l : List UInt8) (hl : l ≠ []) (hl2 : l.length ≤ 100000000) : Go.Ot.Good Γ prog 32 [.ptr (.p 0) 0] [boxO 46 [.ptr (.p 0) 0, .msl (.p 1) 0 l.length 1], rowO 5 w8 (l)] (.t (txt l)) [none, none] [] := by
  refine a_body F.mix func32 (by rfl) ntmps32 ?_
  refine k_seq ?_
  refine k_region rfl ?_
  refine a_op ?_
  refine s_nil (r_false ?_)
  refine q_next ?_
  refine k_seq ?_
  refine k_region rfl ?_
  iterate 4 refine a_opd ?_
  refine a_byd (spec_sliceData rfl rfl (by have := List.length_pos_iff.2 hl; omega)) ?_
  iterate 5 refine a_opd ?_
  refine a_byd (spec_unsafeString rfl rfl l rfl (ob := rowO 5 w8 (l)) rfl rfl hl (fun j z h => by simp [rowO, cls, w8, h]) (by simp [rowO, cls]) (by omega) underlying64 (by kernel_rfl)) ?_
  refine a_opd ?_
  refine s_nil (r_true (by kernel_rfl) ?_)
  refine q_next ?_
  refine k_ret ?_
  refine ⟨.inr rfl, a_ret [] (by rw [results32]) ?_ ?_ ?_⟩ <;> simp [-List.map_set, -List.map_replicate, -List.reduceReplicate, -List.map_map, -List.map_drop, -List.map_take, num, bol, txt, w8, w16, w32, w64, lst, cls, rowO, boxO, List.take_of_length_le]

theorem string0_good (Γ : Gl)  : Go.Ot.Good Γ prog 32 [.ptr (.p 0) 0] [boxO 46 [.t (.v (.pointer none)), .t (.v (.slice none 0 0))]] (.t (txt [])) [none] [] := by
  refine a_body F.mix func32 (by rfl) ntmps32 ?_
  refine k_seq ?_
  refine k_region rfl ?_
  refine a_op ?_
  refine s_nil (r_false ?_)
  refine q_next ?_
  refine k_seq ?_
  refine k_region rfl ?_
  iterate 4 refine a_opd ?_
  refine a_plaind (.pointer none) ?_
  iterate 5 refine a_opd ?_
  refine a_plaind (.string (S [])) ?_
  refine a_opd ?_
  refine s_nil (r_true (by kernel_rfl) ?_)
  refine q_next ?_
  refine k_ret ?_
  refine ⟨.inr rfl, a_ret [] (by rw [results32]) ?_ ?_ ?_⟩ <;> simp [-List.map_set, -List.map_replicate, -List.reduceReplicate, -List.map_map, -List.map_drop, -List.map_take, num, bol, txt, w8, w16, w32, w64, lst, cls, rowO, boxO, List.take_of_length_le]

end Go.Proofs.Tryd
