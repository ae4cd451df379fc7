import Derived.Test.YtcajgckomhhglaaSF
import Derived.Test.YtcajgckomhhglaaOtIface
import Derived.Test.YtcajgckomhhglaaOtCopy
set_option maxHeartbeats 4000000
set_option maxRecDepth 100000
set_option linter.unusedVariables false
set_option linter.unusedSimpArgs false
namespace Go.Proofs.Try
open Go Go.Ot
attribute [local irreducible] wpK wpS seqK blockK loopF regK meetK OpSpec Le
theorem unwrap_good (Γ : Gl) (p : List UInt8) (v : Value) (h1 : v.oneCell' = true) : Go.Ot.Good Γ prog 83 [.agg [.t (.v (.string (S p))), .t (.v v)]] [] (.t (.v v)) [] [] := by
  refine a_body F.mix func83 (by rfl) ntmps83 ?_
  refine k_seq ?_
  refine k_region rfl ?_
  refine a_op (hs := by (simp only [push_cast, h1] <;> rfl)) ?_
  refine a_op ?_
  refine s_nil (r_false ?_)
  refine q_next ?_
  refine k_seq ?_
  refine k_region rfl ?_
  iterate 3 refine a_op ?_
  refine s_nil (r_false ?_)
  refine q_next ?_
  refine k_ret ?_
  refine ⟨.inr rfl, a_ret [] (by rw [results83]) ?_ ?_ ?_⟩ <;> simp [-List.map_set, -List.map_replicate, -List.reduceReplicate, -List.map_map, -List.map_drop, -List.map_take, num, bol, txt, w8, w16, w32, w64, lst, cls, rowO, boxO, List.take_of_length_le, h1]

theorem lk69_50 (v : Value) (xT : TypeId) (w : World) : (Instr.typeAssert (.iface 50 v) xT 69 true).run prog w = .ok (.tuple #[.nilIface, .bool false]) w := run_typeAssert_lacksB underlying69 (by kernel_rfl) (by kernel_rfl) v xT w
theorem lk69_45 (v : Value) (xT : TypeId) (w : World) : (Instr.typeAssert (.iface 45 v) xT 69 true).run prog w = .ok (.tuple #[.nilIface, .bool false]) w := run_typeAssert_lacksB underlying69 (by kernel_rfl) (by kernel_rfl) v xT w
theorem lk72_45 (v : Value) (xT : TypeId) (w : World) : (Instr.typeAssert (.iface 45 v) xT 72 true).run prog w = .ok (.tuple #[.nilIface, .bool false]) w := run_typeAssert_lacksB underlying72 (by kernel_rfl) (by kernel_rfl) v xT w
theorem lk74_50 (v : Value) (xT : TypeId) (w : World) : (Instr.typeAssert (.iface 50 v) xT 74 true).run prog w = .ok (.tuple #[.nilIface, .bool false]) w := run_typeAssert_lacksB underlying74 (by kernel_rfl) (by kernel_rfl) v xT w
theorem lk74_45 (v : Value) (xT : TypeId) (w : World) : (Instr.typeAssert (.iface 45 v) xT 74 true).run prog w = .ok (.tuple #[.nilIface, .bool false]) w := run_typeAssert_lacksB underlying74 (by kernel_rfl) (by kernel_rfl) v xT w
theorem hs72_50 (v : Value) (xT : TypeId) (w : World) : (Instr.typeAssert (.iface 50 v) xT 72 true).run prog w = .ok (.tuple #[.iface 50 v, .bool true]) w := run_typeAssert_hasB underlying72 (by kernel_rfl) v xT w
theorem isin_good (Γ : Gl) (p : List UInt8) (s s' : List UInt8) (b : Bool) (hb : ∀ w, (binOp .eql 41 (.iface 45 (.string (S s))) (.iface 45 (.string (S s')))).run prog w = .ok (.bool b) w) : Go.Ot.Good Γ prog 25 [.t (.ifc 50 (.agg [txt p, .ifc 45 (txt s)])), .t (.ifc 45 (txt s')), .t (bol true)] [] (.t (bol b)) [] [] := by
  refine a_body F.mix func25 (by rfl) ntmps25 ?_
  refine k_seq ?_
  refine k_region rfl ?_
  refine a_op ?_
  refine s_nil (r_false ?_)
  refine q_next ?_
  refine k_block ?_
  refine k_loopF (fun sl L (q : Bool) => ⟨setAll (setBad sl [6, 7, 8, 9, 10, 12, 13, 14, 15, 16, 17, 18, 19, 20, 21, 22, 23, 24, 25, 26, 27, 28, 29, 30, 31, 32, 33, 34, 35, 36, 37, 38, 39, 40, 41, 42, 43, 44, 45, 46, 47, 48, 49, 50, 51, 52, 53]) [(0, if q = true then .t (.v (.iface 45 (.string (S s)))) else .t (.ifc 50 (.agg [txt p, .ifc 45 (txt s)])))], Go.Ot.look (L)⟩) (fun q => True) (fun q => if q = true then 0 else 1) (false) (a_le ?_) ?_ ?_
  · refine le_same ?_ ?_ ?_ <;> simp [-List.map_set, -List.map_replicate, -List.reduceReplicate, -List.map_map, -List.map_drop, -List.map_take, num, bol, txt, w8, w16, w32, w64, lst, cls, rowO, boxO, List.take_of_length_le]
  · trivial
  · intro q _
    cases q
    · refine a_st ?_
      refine k_block ?_
      refine k_seq ?_
      refine k_seq ?_
      refine k_region rfl ?_
      refine a_op ?_
      refine a_op ?_
      first | refine a_go ?_ | refine a_no ?_ | refine a_may ?_
      first | refine a_go ?_ | refine a_no ?_ | refine a_may ?_
      refine a_plaingo (.bool false) ?_
      refine a_op ?_
      refine s_nil (r_false ?_)
      refine q_next ?_
      refine a_false ?_
      refine k_skip ?_
      refine q_next ?_
      refine k_seq ?_
      refine k_seq ?_
      refine k_region rfl ?_
      refine a_op ?_
      refine a_assert (.iface 50 (.agg #[.string (S p), .iface 45 (.string (S s))])) (.tuple #[.nilIface, .bool false]) ?_ (lk69_50 _ _)
      refine a_op ?_
      refine a_plain (.nilIface) ?_
      refine a_plain (.bool false) ?_
      refine a_op ?_
      refine a_op ?_
      refine s_nil (r_false ?_)
      refine q_next ?_
      refine k_seq ?_
      refine k_region rfl ?_
      refine a_op ?_
      refine a_op ?_
      first | refine a_go ?_ | refine a_no ?_ | refine a_may ?_
      first | refine a_go ?_ | refine a_no ?_ | refine a_may ?_
      first | refine a_go ?_ | refine a_no ?_ | refine a_may ?_
      refine a_op ?_
      refine s_nil (r_false ?_)
      refine q_next ?_
      refine a_false ?_
      refine k_skip ?_
      refine q_next ?_
      refine k_seq ?_
      refine k_region rfl ?_
      refine a_op ?_
      refine s_nil (r_false ?_)
      refine q_next ?_
      refine k_block ?_
      refine k_seq ?_
      refine k_region rfl ?_
      refine a_assert (.iface 50 (.agg #[.string (S p), .iface 45 (.string (S s))])) (.tuple #[.iface 50 (.agg #[.string (S p), .iface 45 (.string (S s))]), .bool true]) ?_ (hs72_50 _ _)
      refine a_plain (.bool true) ?_
      refine a_plain (.iface 50 (.agg #[.string (S p), .iface 45 (.string (S s))])) ?_
      refine s_nil (r_false ?_)
      refine q_next ?_
      refine a_true ?_
      refine k_seq ?_
      refine k_region rfl ?_
      refine a_op ?_
      refine s_nil (r_false ?_)
      refine q_next ?_
      refine k_seq ?_
      refine k_region rfl ?_
      refine a_op ?_
      refine a_invoke [] false (unwrap_good Γ p (.iface 45 (.string (S s))) rfl) ?_ (ty := 50) (v := .agg #[.string (S p), .iface 45 (.string (S s))]) (v' := .agg #[.string (S p), .iface 45 (.string (S s))]) (f := 83) rfl (by intro w; kernel_rfl)
      refine a_op ?_
      refine s_nil (r_false ?_)
      refine q_next ?_
      refine k_seq ?_
      refine k_region rfl ?_
      refine a_op ?_
      refine a_plain (.bool false) ?_
      refine s_nil (r_false ?_)
      refine q_next ?_
      refine a_false ?_
      refine k_skip ?_
      refine q_block (q_block (q_loopF (true) (a_le ?_) ?_ ?_))
      · refine le_same ?_ ?_ ?_ <;> simp [-List.map_set, -List.map_replicate, -List.reduceReplicate, -List.map_map, -List.map_drop, -List.map_take, num, bol, txt, w8, w16, w32, w64, lst, cls, rowO, boxO, List.take_of_length_le]
      · trivial
      · simp
    · refine a_st ?_
      refine k_block ?_
      refine k_seq ?_
      refine k_seq ?_
      refine k_region rfl ?_
      refine a_op ?_
      refine a_op ?_
      first | refine a_go ?_ | refine a_no ?_ | refine a_may ?_
      first | refine a_go ?_ | refine a_no ?_ | refine a_may ?_
      refine a_eqvgo (.bool b) ?_ hb
      refine a_op ?_
      refine s_nil (r_false ?_)
      refine q_next ?_
      refine a_if (fun hc0 => ?_) (fun hc0 => ?_)
      · (try simp only [Bool.and_eq_true, Bool.or_eq_true, Bool.or_eq_false_iff, Bool.not_eq_true', Bool.not_eq_false', dec_t, dec_f, Bool.and_eq_false_imp, beq_iff_eq, beq_eq_false_iff_ne, ne_eq] at hc0)
        subst hc0
        refine k_seq ?_
        refine k_region rfl ?_
        refine a_op ?_
        refine s_nil (r_false ?_)
        refine q_next ?_
        refine k_ret ?_
        refine q_seq_ret (q_block_ret (q_loopF_ret (q_block_ret ?_)))
        refine ⟨.inr rfl, a_ret [] (by rw [results25]) ?_ ?_ ?_⟩ <;> simp [-List.map_set, -List.map_replicate, -List.reduceReplicate, -List.map_map, -List.map_drop, -List.map_take, num, bol, txt, w8, w16, w32, w64, lst, cls, rowO, boxO, List.take_of_length_le]
      · (try simp only [Bool.and_eq_true, Bool.or_eq_true, Bool.or_eq_false_iff, Bool.not_eq_true', Bool.not_eq_false', dec_t, dec_f, Bool.and_eq_false_imp, beq_iff_eq, beq_eq_false_iff_ne, ne_eq] at hc0)
        subst hc0
        refine k_skip ?_
        refine q_next ?_
        refine k_seq ?_
        refine k_seq ?_
        refine k_region rfl ?_
        refine a_op ?_
        refine a_assert (.iface 45 (.string (S s))) (.tuple #[.nilIface, .bool false]) ?_ (lk69_45 _ _)
        refine a_op ?_
        refine a_plain (.nilIface) ?_
        refine a_plain (.bool false) ?_
        refine a_op ?_
        refine a_op ?_
        refine s_nil (r_false ?_)
        refine q_next ?_
        refine k_seq ?_
        refine k_region rfl ?_
        refine a_op ?_
        refine a_op ?_
        first | refine a_go ?_ | refine a_no ?_ | refine a_may ?_
        first | refine a_go ?_ | refine a_no ?_ | refine a_may ?_
        first | refine a_go ?_ | refine a_no ?_ | refine a_may ?_
        refine a_op ?_
        refine s_nil (r_false ?_)
        refine q_next ?_
        refine a_false ?_
        refine k_skip ?_
        refine q_next ?_
        refine k_seq ?_
        refine k_region rfl ?_
        refine a_op ?_
        refine s_nil (r_false ?_)
        refine q_next ?_
        refine k_block ?_
        refine k_seq ?_
        refine k_region rfl ?_
        refine a_assert (.iface 45 (.string (S s))) (.tuple #[.nilIface, .bool false]) ?_ (lk72_45 _ _)
        refine a_plain (.bool false) ?_
        refine a_plain (.nilIface) ?_
        refine s_nil (r_false ?_)
        refine q_next ?_
        refine a_false ?_
        refine k_seq ?_
        refine k_region rfl ?_
        refine a_assert (.iface 45 (.string (S s))) (.tuple #[.nilIface, .bool false]) ?_ (lk74_45 _ _)
        refine a_plain (.bool false) ?_
        refine a_plain (.nilIface) ?_
        refine s_nil (r_false ?_)
        refine q_next ?_
        refine a_false ?_
        refine k_seq ?_
        refine k_region rfl ?_
        refine a_op ?_
        refine s_nil (r_false ?_)
        refine q_next ?_
        refine k_seq ?_
        refine k_region rfl ?_
        refine a_op ?_
        refine s_nil (r_false ?_)
        refine q_next ?_
        refine k_ret ?_
        refine q_block_ret (q_block_ret (q_loopF_ret (q_block_ret ?_)))
        refine ⟨.inr rfl, a_ret [] (by rw [results25]) ?_ ?_ ?_⟩ <;> simp [-List.map_set, -List.map_replicate, -List.reduceReplicate, -List.map_map, -List.map_drop, -List.map_take, num, bol, txt, w8, w16, w32, w64, lst, cls, rowO, boxO, List.take_of_length_le]

theorem ext24 (v : Value) (w : World) : (callFunc 24 #[.iface 45 v]).run prog w = .ok (.value (.iface 67 (.agg #[.pointer (some ⟨1, 45, none⟩)]))) w := by
  rw [run_callFunc_extern func24 (by kernel_rfl) (by kernel_rfl) (by kernel_rfl) (e := Extern.ReflectliteType.typeOf) (by kernel_rfl)]
  kernel_rfl
theorem ext87 (w : World) : (callFunc 87 #[.agg #[.pointer (some ⟨1, 45, none⟩)]]).run prog w = .ok (.value (.bool true)) w := by
  rw [run_callFunc_extern func87 (by kernel_rfl) (by kernel_rfl) (by kernel_rfl) (e := Extern.ReflectliteType.method (fun t => do Extern.Rtype.noPackHeld "Comparable" t; pure (.bool (← typeInfo t).comparable))) (by kernel_rfl)]
  kernel_rfl
theorem is_good (Γ : Gl) (p : List UInt8) (s s' : List UInt8) (b : Bool) (hb : ∀ w, (binOp .eql 41 (.iface 45 (.string (S s))) (.iface 45 (.string (S s')))).run prog w = .ok (.bool b) w) : Go.Ot.Good Γ prog 17 [.t (.ifc 50 (.agg [txt p, .ifc 45 (txt s)])), .t (.ifc 45 (txt s'))] [] (.t (bol b)) [] [] := by
  refine a_body F.mix func17 (by rfl) ntmps17 ?_
  refine k_seq ?_
  refine k_region rfl ?_
  refine a_op ?_
  refine s_nil (r_false ?_)
  refine q_next ?_
  refine k_seq ?_
  refine k_seq ?_
  refine k_region rfl ?_
  refine a_op ?_
  refine a_isnil false ?_
  refine a_op ?_
  first | refine a_go ?_ | refine a_no ?_ | refine a_may ?_
  refine a_isnilgo false ?_
  refine a_op ?_
  refine s_nil (r_false ?_)
  refine q_next ?_
  refine a_false ?_
  refine k_skip ?_
  refine q_next ?_
  refine k_seq ?_
  refine k_region rfl ?_
  refine a_op ?_
  refine a_ext #[.iface 45 (.string (S s'))] (.iface 67 (.agg #[.pointer (some ⟨1, 45, none⟩)])) ?_ (ext24 _)
  refine a_extm (.bool true) (ty := 67) (v := .agg #[.pointer (some ⟨1, 45, none⟩)]) (v' := .agg #[.pointer (some ⟨1, 45, none⟩)]) (f := 87) ?_ (by intro w; kernel_rfl) ext87
  refine a_op ?_
  refine s_nil (r_false ?_)
  refine q_next ?_
  refine k_seq ?_
  refine k_region rfl ?_
  iterate 3 refine a_op ?_
  refine a_call [] false (isin_good Γ p s s' b hb) ?_
  refine a_op ?_
  refine s_nil (r_false ?_)
  refine q_next ?_
  refine k_ret ?_
  refine ⟨.inr rfl, a_ret [] (by rw [results17]) ?_ ?_ ?_⟩ <;> simp [-List.map_set, -List.map_replicate, -List.reduceReplicate, -List.map_map, -List.map_drop, -List.map_take, num, bol, txt, w8, w16, w32, w64, lst, cls, rowO, boxO, List.take_of_length_le]

theorem isnil_good (Γ : Gl) (s' : List UInt8) : Go.Ot.Good Γ prog 17 [.t (.v .nilIface), .t (.ifc 45 (txt s'))] [] (.t (bol false)) [] [] := by
  refine a_body F.mix func17 (by rfl) ntmps17 ?_
  refine k_seq ?_
  refine k_region rfl ?_
  refine a_op ?_
  refine s_nil (r_false ?_)
  refine q_next ?_
  refine k_seq ?_
  refine k_seq ?_
  refine k_region rfl ?_
  refine a_op ?_
  refine a_nilnil false ?_
  refine a_op ?_
  refine a_no ?_
  refine a_no ?_
  refine a_op ?_
  refine s_nil (r_false ?_)
  refine q_next ?_
  refine a_true ?_
  refine k_seq ?_
  refine k_region rfl ?_
  refine a_op ?_
  refine a_op ?_
  refine a_plain (.bool false) ?_
  refine a_op ?_
  refine s_nil (r_false ?_)
  refine q_next ?_
  refine k_ret ?_
  refine q_seq_ret ?_
  refine ⟨.inr rfl, a_ret [] (by rw [results17]) ?_ ?_ ?_⟩ <;> simp [-List.map_set, -List.map_replicate, -List.reduceReplicate, -List.map_map, -List.map_drop, -List.map_take, num, bol, txt, w8, w16, w32, w64, lst, cls, rowO, boxO, List.take_of_length_le]

theorem eq_ss (w : World) : (binOp .eql 41 (.iface 45 (.string (S [115, 105, 122, 101]))) (.iface 45 (.string (S [115, 105, 122, 101])))).run prog w = .ok (.bool true) w := by kernel_rfl
theorem eq_ts (w : World) : (binOp .eql 41 (.iface 45 (.string (S [116, 97, 103]))) (.iface 45 (.string (S [115, 105, 122, 101])))).run prog w = .ok (.bool false) w := by kernel_rfl
theorem eq_tt (w : World) : (binOp .eql 41 (.iface 45 (.string (S [116, 97, 103]))) (.iface 45 (.string (S [116, 97, 103])))).run prog w = .ok (.bool true) w := by kernel_rfl
theorem eq_st (w : World) : (binOp .eql 41 (.iface 45 (.string (S [115, 105, 122, 101]))) (.iface 45 (.string (S [116, 97, 103])))).run prog w = .ok (.bool false) w := by kernel_rfl
end Go.Proofs.Try
