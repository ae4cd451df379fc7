import Derived.Test.YtihkemlgdfjmjaaDoorSF
import Derived.Test.YtihkemlgdfjmjaaDoorOtIface
import Derived.Test.YtihkemlgdfjmjaaDoorOtCopy
set_option maxHeartbeats 4000000
set_option maxRecDepth 100000
set_option linter.unusedVariables false
set_option linter.unusedSimpArgs false
namespace Go.Proofs.Tryd
open Go Go.Ot
attribute [local irreducible] wpK wpS seqK blockK loopF regK meetK OpSpec Le
theorem unwrap_good (Γ : Gl) (v : Value) (h1 : v.oneCell' = true) : Go.Ot.Good Γ prog 88 [.agg [.t (.v v)]] [] (.t (.v v)) [] [] := by
  refine a_body F.mix func88 (by rfl) ntmps88 ?_
  refine k_seq ?_
  refine k_region rfl ?_
  refine a_op (hs := by (simp only [push_cast, h1] <;> rfl)) ?_
  refine a_op ?_
  refine s_nil (r_false ?_)
  refine q_next ?_
  refine k_seq ?_
  refine k_region rfl ?_
  iterate 3 refine a_op ?_
  refine s_nil (r_false ?_)
  refine q_next ?_
  refine k_ret ?_
  refine ⟨.inr rfl, a_ret [] (by rw [results88]) ?_ ?_ ?_⟩ <;> simp [-List.map_set, -List.map_replicate, -List.reduceReplicate, -List.map_map, -List.map_drop, -List.map_take, num, bol, txt, w8, w16, w32, w64, lst, cls, rowO, boxO, List.take_of_length_le, h1]

theorem lk73_58 (v : Value) (xT : TypeId) (w : World) : (Instr.typeAssert (.iface 58 v) xT 73 true).run prog w = .ok (.tuple #[.nilIface, .bool false]) w := run_typeAssert_lacksB underlying73 (by kernel_rfl) (by kernel_rfl) v xT w
theorem lk73_42 (v : Value) (xT : TypeId) (w : World) : (Instr.typeAssert (.iface 42 v) xT 73 true).run prog w = .ok (.tuple #[.nilIface, .bool false]) w := run_typeAssert_lacksB underlying73 (by kernel_rfl) (by kernel_rfl) v xT w
theorem lk76_42 (v : Value) (xT : TypeId) (w : World) : (Instr.typeAssert (.iface 42 v) xT 76 true).run prog w = .ok (.tuple #[.nilIface, .bool false]) w := run_typeAssert_lacksB underlying76 (by kernel_rfl) (by kernel_rfl) v xT w
theorem lk78_58 (v : Value) (xT : TypeId) (w : World) : (Instr.typeAssert (.iface 58 v) xT 78 true).run prog w = .ok (.tuple #[.nilIface, .bool false]) w := run_typeAssert_lacksB underlying78 (by kernel_rfl) (by kernel_rfl) v xT w
theorem lk78_42 (v : Value) (xT : TypeId) (w : World) : (Instr.typeAssert (.iface 42 v) xT 78 true).run prog w = .ok (.tuple #[.nilIface, .bool false]) w := run_typeAssert_lacksB underlying78 (by kernel_rfl) (by kernel_rfl) v xT w
theorem hs76_58 (v : Value) (xT : TypeId) (w : World) : (Instr.typeAssert (.iface 58 v) xT 76 true).run prog w = .ok (.tuple #[.iface 58 v, .bool true]) w := run_typeAssert_hasB underlying76 (by kernel_rfl) v xT w
theorem isin_good (Γ : Gl) (s s' : List UInt8) (b : Bool) (hb : ∀ w, (binOp .eql 39 (.iface 42 (.string (S s))) (.iface 42 (.string (S s')))).run prog w = .ok (.bool b) w) : Go.Ot.Good Γ prog 38 [.t (.ifc 58 (.agg [.ifc 42 (txt s)])), .t (.ifc 42 (txt s')), .t (bol true)] [] (.t (bol b)) [] [] := by
  refine a_body F.mix func38 (by rfl) ntmps38 ?_
  refine k_seq ?_
  refine k_region rfl ?_
  refine a_op ?_
  refine s_nil (r_false ?_)
  refine q_next ?_
  refine k_block ?_
  refine k_loopF (fun sl L (q : Bool) => ⟨setAll (setBad sl [6, 7, 8, 9, 10, 12, 13, 14, 15, 16, 17, 18, 19, 20, 21, 22, 23, 24, 25, 26, 27, 28, 29, 30, 31, 32, 33, 34, 35, 36, 37, 38, 39, 40, 41, 42, 43, 44, 45, 46, 47, 48, 49, 50, 51, 52, 53]) [(0, if q = true then .t (.v (.iface 42 (.string (S s)))) else .t (.ifc 58 (.agg [.ifc 42 (txt s)])))], Go.Ot.look (L)⟩) (fun q => True) (fun q => if q = true then 0 else 1) (false) (a_le ?_) ?_ ?_
  · refine le_same ?_ ?_ ?_ <;> simp [-List.map_set, -List.map_replicate, -List.reduceReplicate, -List.map_map, -List.map_drop, -List.map_take, num, bol, txt, w8, w16, w32, w64, lst, cls, rowO, boxO, List.take_of_length_le]
  · trivial
  · intro q _
    cases q
    · refine a_st ?_
      refine k_block ?_
      refine k_seq ?_
      refine k_seq ?_
      refine k_region rfl ?_
      refine a_op ?_
      refine a_op ?_
      first | refine a_go ?_ | refine a_no ?_ | refine a_may ?_
      first | refine a_go ?_ | refine a_no ?_ | refine a_may ?_
      refine a_plaingo (.bool false) ?_
      refine a_op ?_
      refine s_nil (r_false ?_)
      refine q_next ?_
      refine a_false ?_
      refine k_skip ?_
      refine q_next ?_
      refine k_seq ?_
      refine k_seq ?_
      refine k_region rfl ?_
      refine a_op ?_
      refine a_assert (.iface 58 (.agg #[.iface 42 (.string (S s))])) (.tuple #[.nilIface, .bool false]) ?_ (lk73_58 _ _)
      refine a_op ?_
      refine a_plain (.nilIface) ?_
      refine a_plain (.bool false) ?_
      refine a_op ?_
      refine a_op ?_
      refine s_nil (r_false ?_)
      refine q_next ?_
      refine k_seq ?_
      refine k_region rfl ?_
      refine a_op ?_
      refine a_op ?_
      first | refine a_go ?_ | refine a_no ?_ | refine a_may ?_
      first | refine a_go ?_ | refine a_no ?_ | refine a_may ?_
      first | refine a_go ?_ | refine a_no ?_ | refine a_may ?_
      refine a_op ?_
      refine s_nil (r_false ?_)
      refine q_next ?_
      refine a_false ?_
      refine k_skip ?_
      refine q_next ?_
      refine k_seq ?_
      refine k_region rfl ?_
      refine a_op ?_
      refine s_nil (r_false ?_)
      refine q_next ?_
      refine k_block ?_
      refine k_seq ?_
      refine k_region rfl ?_
      refine a_assert (.iface 58 (.agg #[.iface 42 (.string (S s))])) (.tuple #[.iface 58 (.agg #[.iface 42 (.string (S s))]), .bool true]) ?_ (hs76_58 _ _)
      refine a_plain (.bool true) ?_
      refine a_plain (.iface 58 (.agg #[.iface 42 (.string (S s))])) ?_
      refine s_nil (r_false ?_)
      refine q_next ?_
      refine a_true ?_
      refine k_seq ?_
      refine k_region rfl ?_
      refine a_op ?_
      refine s_nil (r_false ?_)
      refine q_next ?_
      refine k_seq ?_
      refine k_region rfl ?_
      refine a_op ?_
      refine a_invoke [] false (unwrap_good Γ (.iface 42 (.string (S s))) rfl) ?_ (ty := 58) (v := .agg #[.iface 42 (.string (S s))]) (v' := .agg #[.iface 42 (.string (S s))]) (f := 88) rfl (by intro w; kernel_rfl)
      refine a_op ?_
      refine s_nil (r_false ?_)
      refine q_next ?_
      refine k_seq ?_
      refine k_region rfl ?_
      refine a_op ?_
      refine a_plain (.bool false) ?_
      refine s_nil (r_false ?_)
      refine q_next ?_
      refine a_false ?_
      refine k_skip ?_
      refine q_block (q_block (q_loopF (true) (a_le ?_) ?_ ?_))
      · refine le_same ?_ ?_ ?_ <;> simp [-List.map_set, -List.map_replicate, -List.reduceReplicate, -List.map_map, -List.map_drop, -List.map_take, num, bol, txt, w8, w16, w32, w64, lst, cls, rowO, boxO, List.take_of_length_le]
      · trivial
      · simp
    · refine a_st ?_
      refine k_block ?_
      refine k_seq ?_
      refine k_seq ?_
      refine k_region rfl ?_
      refine a_op ?_
      refine a_op ?_
      first | refine a_go ?_ | refine a_no ?_ | refine a_may ?_
      first | refine a_go ?_ | refine a_no ?_ | refine a_may ?_
      refine a_eqvgo (.bool b) ?_ hb
      refine a_op ?_
      refine s_nil (r_false ?_)
      refine q_next ?_
      refine a_if (fun hc0 => ?_) (fun hc0 => ?_)
      · (try simp only [Bool.and_eq_true, Bool.or_eq_true, Bool.or_eq_false_iff, Bool.not_eq_true', Bool.not_eq_false', dec_t, dec_f, Bool.and_eq_false_imp, beq_iff_eq, beq_eq_false_iff_ne, ne_eq] at hc0)
        subst hc0
        refine k_seq ?_
        refine k_region rfl ?_
        refine a_op ?_
        refine s_nil (r_false ?_)
        refine q_next ?_
        refine k_ret ?_
        refine q_seq_ret (q_block_ret (q_loopF_ret (q_block_ret ?_)))
        refine ⟨.inr rfl, a_ret [] (by rw [results38]) ?_ ?_ ?_⟩ <;> simp [-List.map_set, -List.map_replicate, -List.reduceReplicate, -List.map_map, -List.map_drop, -List.map_take, num, bol, txt, w8, w16, w32, w64, lst, cls, rowO, boxO, List.take_of_length_le]
      · (try simp only [Bool.and_eq_true, Bool.or_eq_true, Bool.or_eq_false_iff, Bool.not_eq_true', Bool.not_eq_false', dec_t, dec_f, Bool.and_eq_false_imp, beq_iff_eq, beq_eq_false_iff_ne, ne_eq] at hc0)
        subst hc0
        refine k_skip ?_
        refine q_next ?_
        refine k_seq ?_
        refine k_seq ?_
        refine k_region rfl ?_
        refine a_op ?_
        refine a_assert (.iface 42 (.string (S s))) (.tuple #[.nilIface, .bool false]) ?_ (lk73_42 _ _)
        refine a_op ?_
        refine a_plain (.nilIface) ?_
        refine a_plain (.bool false) ?_
        refine a_op ?_
        refine a_op ?_
        refine s_nil (r_false ?_)
        refine q_next ?_
        refine k_seq ?_
        refine k_region rfl ?_
        refine a_op ?_
        refine a_op ?_
        first | refine a_go ?_ | refine a_no ?_ | refine a_may ?_
        first | refine a_go ?_ | refine a_no ?_ | refine a_may ?_
        first | refine a_go ?_ | refine a_no ?_ | refine a_may ?_
        refine a_op ?_
        refine s_nil (r_false ?_)
        refine q_next ?_
        refine a_false ?_
        refine k_skip ?_
        refine q_next ?_
        refine k_seq ?_
        refine k_region rfl ?_
        refine a_op ?_
        refine s_nil (r_false ?_)
        refine q_next ?_
        refine k_block ?_
        refine k_seq ?_
        refine k_region rfl ?_
        refine a_assert (.iface 42 (.string (S s))) (.tuple #[.nilIface, .bool false]) ?_ (lk76_42 _ _)
        refine a_plain (.bool false) ?_
        refine a_plain (.nilIface) ?_
        refine s_nil (r_false ?_)
        refine q_next ?_
        refine a_false ?_
        refine k_seq ?_
        refine k_region rfl ?_
        refine a_assert (.iface 42 (.string (S s))) (.tuple #[.nilIface, .bool false]) ?_ (lk78_42 _ _)
        refine a_plain (.bool false) ?_
        refine a_plain (.nilIface) ?_
        refine s_nil (r_false ?_)
        refine q_next ?_
        refine a_false ?_
        refine k_seq ?_
        refine k_region rfl ?_
        refine a_op ?_
        refine s_nil (r_false ?_)
        refine q_next ?_
        refine k_seq ?_
        refine k_region rfl ?_
        refine a_op ?_
        refine s_nil (r_false ?_)
        refine q_next ?_
        refine k_ret ?_
        refine q_block_ret (q_block_ret (q_loopF_ret (q_block_ret ?_)))
        refine ⟨.inr rfl, a_ret [] (by rw [results38]) ?_ ?_ ?_⟩ <;> simp [-List.map_set, -List.map_replicate, -List.reduceReplicate, -List.map_map, -List.map_drop, -List.map_take, num, bol, txt, w8, w16, w32, w64, lst, cls, rowO, boxO, List.take_of_length_le]

theorem ext37 (v : Value) (w : World) : (callFunc 37 #[.iface 42 v]).run prog w = .ok (.value (.iface 71 (.agg #[.pointer (some ⟨4, 42, none⟩)]))) w := by
  rw [run_callFunc_extern func37 (by kernel_rfl) (by kernel_rfl) (by kernel_rfl) (e := Extern.ReflectliteType.typeOf) (by kernel_rfl)]
  kernel_rfl
theorem ext92 (w : World) : (callFunc 92 #[.agg #[.pointer (some ⟨4, 42, none⟩)]]).run prog w = .ok (.value (.bool true)) w := by
  rw [run_callFunc_extern func92 (by kernel_rfl) (by kernel_rfl) (by kernel_rfl) (e := Extern.ReflectliteType.method (fun t => do Extern.Rtype.noPackHeld "Comparable" t; pure (.bool (← typeInfo t).comparable))) (by kernel_rfl)]
  kernel_rfl
theorem is_good (Γ : Gl) (s s' : List UInt8) (b : Bool) (hb : ∀ w, (binOp .eql 39 (.iface 42 (.string (S s))) (.iface 42 (.string (S s')))).run prog w = .ok (.bool b) w) : Go.Ot.Good Γ prog 28 [.t (.ifc 58 (.agg [.ifc 42 (txt s)])), .t (.ifc 42 (txt s'))] [] (.t (bol b)) [] [] := by
  refine a_body F.mix func28 (by rfl) ntmps28 ?_
  refine k_seq ?_
  refine k_region rfl ?_
  refine a_op ?_
  refine s_nil (r_false ?_)
  refine q_next ?_
  refine k_seq ?_
  refine k_seq ?_
  refine k_region rfl ?_
  refine a_op ?_
  refine a_isnil false ?_
  refine a_op ?_
  first | refine a_go ?_ | refine a_no ?_ | refine a_may ?_
  refine a_isnilgo false ?_
  refine a_op ?_
  refine s_nil (r_false ?_)
  refine q_next ?_
  refine a_false ?_
  refine k_skip ?_
  refine q_next ?_
  refine k_seq ?_
  refine k_region rfl ?_
  refine a_op ?_
  refine a_ext #[.iface 42 (.string (S s'))] (.iface 71 (.agg #[.pointer (some ⟨4, 42, none⟩)])) ?_ (ext37 _)
  refine a_extm (.bool true) (ty := 71) (v := .agg #[.pointer (some ⟨4, 42, none⟩)]) (v' := .agg #[.pointer (some ⟨4, 42, none⟩)]) (f := 92) ?_ (by intro w; kernel_rfl) ext92
  refine a_op ?_
  refine s_nil (r_false ?_)
  refine q_next ?_
  refine k_seq ?_
  refine k_region rfl ?_
  iterate 3 refine a_op ?_
  refine a_call [] false (isin_good Γ s s' b hb) ?_
  refine a_op ?_
  refine s_nil (r_false ?_)
  refine q_next ?_
  refine k_ret ?_
  refine ⟨.inr rfl, a_ret [] (by rw [results28]) ?_ ?_ ?_⟩ <;> simp [-List.map_set, -List.map_replicate, -List.reduceReplicate, -List.map_map, -List.map_drop, -List.map_take, num, bol, txt, w8, w16, w32, w64, lst, cls, rowO, boxO, List.take_of_length_le]

theorem isnil_good (Γ : Gl) (s' : List UInt8) : Go.Ot.Good Γ prog 28 [.t (.v .nilIface), .t (.ifc 42 (txt s'))] [] (.t (bol false)) [] [] := by
  refine a_body F.mix func28 (by rfl) ntmps28 ?_
  refine k_seq ?_
  refine k_region rfl ?_
  refine a_op ?_
  refine s_nil (r_false ?_)
  refine q_next ?_
  refine k_seq ?_
  refine k_seq ?_
  refine k_region rfl ?_
  refine a_op ?_
  refine a_nilnil false ?_
  refine a_op ?_
  refine a_no ?_
  refine a_no ?_
  refine a_op ?_
  refine s_nil (r_false ?_)
  refine q_next ?_
  refine a_true ?_
  refine k_seq ?_
  refine k_region rfl ?_
  refine a_op ?_
  refine a_op ?_
  refine a_plain (.bool false) ?_
  refine a_op ?_
  refine s_nil (r_false ?_)
  refine q_next ?_
  refine k_ret ?_
  refine q_seq_ret ?_
  refine ⟨.inr rfl, a_ret [] (by rw [results28]) ?_ ?_ ?_⟩ <;> simp [-List.map_set, -List.map_replicate, -List.reduceReplicate, -List.map_map, -List.map_drop, -List.map_take, num, bol, txt, w8, w16, w32, w64, lst, cls, rowO, boxO, List.take_of_length_le]

end Go.Proofs.Tryd
