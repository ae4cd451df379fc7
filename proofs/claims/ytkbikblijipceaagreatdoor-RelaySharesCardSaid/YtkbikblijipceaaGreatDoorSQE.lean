/- Contracts of this program's functions. -/
import Derived.Test.YtkbikblijipceaaGreatDoorSF
import Derived.Test.YtkbikblijipceaaGreatDoorOtE
import Derived.Test.YtkbikblijipceaaGreatDoorOtD
set_option maxHeartbeats 4000000
set_option maxRecDepth 100000
set_option linter.unusedVariables false
set_option linter.unusedSimpArgs false
namespace Go.Proofs.Tryz
open Go Go.Ot
attribute [local irreducible] wpK wpS seqK blockK loopF regK meetK OpSpec Le
theorem rq_unwrap_good (Γ : Gl) (p : List UInt8) (v : Value) (h1 : v.oneCell' = true) : Go.Ot.Good Γ prog 219 [.agg [.t (.v (.string (S p))), .t (.v v)]] [] (.t (.v v)) [] [] := by
 refine a_body F.mix func219 (by rfl) ntmps219 ?_
 refine k_seq ?_
 refine k_region rfl ?_
 refine a_op (hs := by (simp only [push_cast, h1] <;> rfl)) ?_
 refine a_op ?_
 refine s_nil (r_false ?_)
 refine q_next ?_
 refine k_seq ?_
 refine k_region rfl ?_
 iterate 3 refine a_op ?_
 refine s_nil (r_false ?_)
 refine q_next ?_
 refine k_ret ?_
 refine ⟨.inr rfl, a_ret [] (by rw [results219]) ?_ ?_ ?_⟩ <;> simp [-List.map_set, -List.map_replicate, -List.reduceReplicate, -List.map_map, -List.map_drop, -List.map_take, num, bol, txt, w8, w16, w32, w64, lst, cls, rowO, boxO, List.take_of_length_le, h1]

theorem rq_lk237_181 (v : Value) (xT : TypeId) (w : World) : (Instr.typeAssert (.iface 181 v) xT 237 true).run prog w = .ok (.tuple #[.nilIface, .bool false]) w := run_typeAssert_lacksB underlying237 (by kernel_rfl) (by kernel_rfl) v xT w
theorem rq_lk237_179 (v : Value) (xT : TypeId) (w : World) : (Instr.typeAssert (.iface 179 v) xT 237 true).run prog w = .ok (.tuple #[.nilIface, .bool false]) w := run_typeAssert_lacksB underlying237 (by kernel_rfl) (by kernel_rfl) v xT w
theorem rq_lk196_179 (v : Value) (xT : TypeId) (w : World) : (Instr.typeAssert (.iface 179 v) xT 196 true).run prog w = .ok (.tuple #[.nilIface, .bool false]) w := run_typeAssert_lacksB underlying196 (by kernel_rfl) (by kernel_rfl) v xT w
theorem rq_lk198_179 (v : Value) (xT : TypeId) (w : World) : (Instr.typeAssert (.iface 179 v) xT 198 true).run prog w = .ok (.tuple #[.nilIface, .bool false]) w := run_typeAssert_lacksB underlying198 (by kernel_rfl) (by kernel_rfl) v xT w
theorem rq_hs196_181 (v : Value) (xT : TypeId) (w : World) : (Instr.typeAssert (.iface 181 v) xT 196 true).run prog w = .ok (.tuple #[.iface 181 v, .bool true]) w := run_typeAssert_hasB underlying196 (by kernel_rfl) v xT w
theorem rq_isin_good (Γ : Gl) (p : List UInt8) (s s' : List UInt8) (b : Bool) (hb : ∀ w, (binOp .eql 81 (.iface 179 (.string (S s))) (.iface 179 (.string (S s')))).run prog w = .ok (.bool b) w) : Go.Ot.Good Γ prog 155 [.t (.ifc 181 (.agg [txt p, .ifc 179 (txt s)])), .t (.ifc 179 (txt s')), .t (bol true)] [] (.t (bol b)) [] [] := by
 refine a_body F.mix func155 (by rfl) ntmps155 ?_
 refine k_seq ?_
 refine k_region rfl ?_
 refine a_op ?_
 refine s_nil (r_false ?_)
 refine q_next ?_
 refine k_block ?_
 refine k_loopF (fun sl L (q : Bool) => ⟨setAll (setBad sl [6, 7, 8, 9, 10, 12, 13, 14, 15, 16, 17, 18, 19, 20, 21, 22, 23, 24, 25, 26, 27, 28, 29, 30, 31, 32, 33, 34, 35, 36, 37, 38, 39, 40, 41, 42, 43, 44, 45, 46, 47, 48, 49, 50, 51, 52, 53]) [(0, if q = true then .t (.v (.iface 179 (.string (S s)))) else .t (.ifc 181 (.agg [txt p, .ifc 179 (txt s)])))], Go.Ot.look (L)⟩) (fun q => True) (fun q => if q = true then 0 else 1) (false) (a_le ?_) ?_ ?_
 ·refine le_same ?_ ?_ ?_ <;> simp [-List.map_set, -List.map_replicate, -List.reduceReplicate, -List.map_map, -List.map_drop, -List.map_take, num, bol, txt, w8, w16, w32, w64, lst, cls, rowO, boxO, List.take_of_length_le]
 ·trivial
 ·intro q _
  cases q
  ·refine a_st ?_
   refine k_block ?_
   refine k_seq ?_
   refine k_seq ?_
   refine k_region rfl ?_
   refine a_op ?_
   refine a_op ?_
   first | refine a_go ?_ | refine a_no ?_ | refine a_may ?_
   first | refine a_go ?_ | refine a_no ?_ | refine a_may ?_
   refine a_plaingo (.bool false) ?_
   refine a_op ?_
   refine s_nil (r_false ?_)
   refine q_next ?_
   refine a_false ?_
   refine k_skip ?_
   refine q_next ?_
   refine k_seq ?_
   refine k_seq ?_
   refine k_region rfl ?_
   refine a_op ?_
   refine a_assert (.iface 181 (.agg #[.string (S p), .iface 179 (.string (S s))])) (.tuple #[.nilIface, .bool false]) ?_ (rq_lk237_181 _ _)
   refine a_op ?_
   refine a_plain (.nilIface) ?_
   refine a_plain (.bool false) ?_
   refine a_op ?_
   refine a_op ?_
   refine s_nil (r_false ?_)
   refine q_next ?_
   refine k_seq ?_
   refine k_region rfl ?_
   refine a_op ?_
   refine a_op ?_
   first | refine a_go ?_ | refine a_no ?_ | refine a_may ?_
   first | refine a_go ?_ | refine a_no ?_ | refine a_may ?_
   first | refine a_go ?_ | refine a_no ?_ | refine a_may ?_
   refine a_op ?_
   refine s_nil (r_false ?_)
   refine q_next ?_
   refine a_false ?_
   refine k_skip ?_
   refine q_next ?_
   refine k_seq ?_
   refine k_region rfl ?_
   refine a_op ?_
   refine s_nil (r_false ?_)
   refine q_next ?_
   refine k_block ?_
   refine k_seq ?_
   refine k_region rfl ?_
   refine a_assert (.iface 181 (.agg #[.string (S p), .iface 179 (.string (S s))])) (.tuple #[.iface 181 (.agg #[.string (S p), .iface 179 (.string (S s))]), .bool true]) ?_ (rq_hs196_181 _ _)
   refine a_plain (.bool true) ?_
   refine a_plain (.iface 181 (.agg #[.string (S p), .iface 179 (.string (S s))])) ?_
   refine s_nil (r_false ?_)
   refine q_next ?_
   refine a_true ?_
   refine k_seq ?_
   refine k_region rfl ?_
   refine a_op ?_
   refine s_nil (r_false ?_)
   refine q_next ?_
   refine k_seq ?_
   refine k_region rfl ?_
   refine a_op ?_
   refine a_invoke [] false (rq_unwrap_good Γ p (.iface 179 (.string (S s))) rfl) ?_ (ty := 181) (v := .agg #[.string (S p), .iface 179 (.string (S s))]) (v' := .agg #[.string (S p), .iface 179 (.string (S s))]) (f := 219) rfl (by intro w; kernel_rfl)
   refine a_op ?_
   refine s_nil (r_false ?_)
   refine q_next ?_
   refine k_seq ?_
   refine k_region rfl ?_
   refine a_op ?_
   refine a_plain (.bool false) ?_
   refine s_nil (r_false ?_)
   refine q_next ?_
   refine a_false ?_
   refine k_skip ?_
   refine q_block (q_block (q_loopF (true) (a_le ?_) ?_ ?_))
   ·refine le_same ?_ ?_ ?_ <;> simp [-List.map_set, -List.map_replicate, -List.reduceReplicate, -List.map_map, -List.map_drop, -List.map_take, num, bol, txt, w8, w16, w32, w64, lst, cls, rowO, boxO, List.take_of_length_le]
   ·trivial
   ·simp
  ·refine a_st ?_
   refine k_block ?_
   refine k_seq ?_
   refine k_seq ?_
   refine k_region rfl ?_
   refine a_op ?_
   refine a_op ?_
   first | refine a_go ?_ | refine a_no ?_ | refine a_may ?_
   first | refine a_go ?_ | refine a_no ?_ | refine a_may ?_
   refine a_eqvgo (.bool b) ?_ hb
   refine a_op ?_
   refine s_nil (r_false ?_)
   refine q_next ?_
   refine a_if (fun hc0 => ?_) (fun hc0 => ?_)
   ·(try simp only [Bool.and_eq_true, Bool.or_eq_true, Bool.or_eq_false_iff, Bool.not_eq_true', Bool.not_eq_false', dec_t, dec_f, Bool.and_eq_false_imp, beq_iff_eq, beq_eq_false_iff_ne, ne_eq] at hc0)
    subst hc0
    refine k_seq ?_
    refine k_region rfl ?_
    refine a_op ?_
    refine s_nil (r_false ?_)
    refine q_next ?_
    refine k_ret ?_
    refine q_seq_ret (q_block_ret (q_loopF_ret (q_block_ret ?_)))
    refine ⟨.inr rfl, a_ret [] (by rw [results155]) ?_ ?_ ?_⟩ <;> simp [-List.map_set, -List.map_replicate, -List.reduceReplicate, -List.map_map, -List.map_drop, -List.map_take, num, bol, txt, w8, w16, w32, w64, lst, cls, rowO, boxO, List.take_of_length_le]
   ·(try simp only [Bool.and_eq_true, Bool.or_eq_true, Bool.or_eq_false_iff, Bool.not_eq_true', Bool.not_eq_false', dec_t, dec_f, Bool.and_eq_false_imp, beq_iff_eq, beq_eq_false_iff_ne, ne_eq] at hc0)
    subst hc0
    refine k_skip ?_
    refine q_next ?_
    refine k_seq ?_
    refine k_seq ?_
    refine k_region rfl ?_
    refine a_op ?_
    refine a_assert (.iface 179 (.string (S s))) (.tuple #[.nilIface, .bool false]) ?_ (rq_lk237_179 _ _)
    refine a_op ?_
    refine a_plain (.nilIface) ?_
    refine a_plain (.bool false) ?_
    refine a_op ?_
    refine a_op ?_
    refine s_nil (r_false ?_)
    refine q_next ?_
    refine k_seq ?_
    refine k_region rfl ?_
    refine a_op ?_
    refine a_op ?_
    first | refine a_go ?_ | refine a_no ?_ | refine a_may ?_
    first | refine a_go ?_ | refine a_no ?_ | refine a_may ?_
    first | refine a_go ?_ | refine a_no ?_ | refine a_may ?_
    refine a_op ?_
    refine s_nil (r_false ?_)
    refine q_next ?_
    refine a_false ?_
    refine k_skip ?_
    refine q_next ?_
    refine k_seq ?_
    refine k_region rfl ?_
    refine a_op ?_
    refine s_nil (r_false ?_)
    refine q_next ?_
    refine k_block ?_
    refine k_seq ?_
    refine k_region rfl ?_
    refine a_assert (.iface 179 (.string (S s))) (.tuple #[.nilIface, .bool false]) ?_ (rq_lk196_179 _ _)
    refine a_plain (.bool false) ?_
    refine a_plain (.nilIface) ?_
    refine s_nil (r_false ?_)
    refine q_next ?_
    refine a_false ?_
    refine k_seq ?_
    refine k_region rfl ?_
    refine a_assert (.iface 179 (.string (S s))) (.tuple #[.nilIface, .bool false]) ?_ (rq_lk198_179 _ _)
    refine a_plain (.bool false) ?_
    refine a_plain (.nilIface) ?_
    refine s_nil (r_false ?_)
    refine q_next ?_
    refine a_false ?_
    refine k_seq ?_
    refine k_region rfl ?_
    refine a_op ?_
    refine s_nil (r_false ?_)
    refine q_next ?_
    refine k_seq ?_
    refine k_region rfl ?_
    refine a_op ?_
    refine s_nil (r_false ?_)
    refine q_next ?_
    refine k_ret ?_
    refine q_block_ret (q_block_ret (q_loopF_ret (q_block_ret ?_)))
    refine ⟨.inr rfl, a_ret [] (by rw [results155]) ?_ ?_ ?_⟩ <;> simp [-List.map_set, -List.map_replicate, -List.reduceReplicate, -List.map_map, -List.map_drop, -List.map_take, num, bol, txt, w8, w16, w32, w64, lst, cls, rowO, boxO, List.take_of_length_le]

theorem rq_ext131 (v : Value) (w : World) : (callFunc 131 #[.iface 179 v]).run prog w = .ok (.value (.iface 188 (.agg #[.pointer (some ⟨2, 179, none⟩)]))) w := by
 rw [run_callFunc_extern func131 (by kernel_rfl) (by kernel_rfl) (by kernel_rfl) (e := Extern.ReflectliteType.typeOf) (by kernel_rfl)]
 kernel_rfl
theorem rq_ext222 (w : World) : (callFunc 222 #[.agg #[.pointer (some ⟨2, 179, none⟩)]]).run prog w = .ok (.value (.bool true)) w := by
 rw [run_callFunc_extern func222 (by kernel_rfl) (by kernel_rfl) (by kernel_rfl) (e := Extern.ReflectliteType.method (fun t => do Extern.Rtype.noPackHeld "Comparable" t; pure (.bool (← typeInfo t).comparable))) (by kernel_rfl)]
 kernel_rfl
theorem rq_is_good (Γ : Gl) (p : List UInt8) (s s' : List UInt8) (b : Bool) (hb : ∀ w, (binOp .eql 81 (.iface 179 (.string (S s))) (.iface 179 (.string (S s')))).run prog w = .ok (.bool b) w) : Go.Ot.Good Γ prog 125 [.t (.ifc 181 (.agg [txt p, .ifc 179 (txt s)])), .t (.ifc 179 (txt s'))] [] (.t (bol b)) [] [] := by
 refine a_body F.mix func125 (by rfl) ntmps125 ?_
 refine k_seq ?_
 refine k_region rfl ?_
 refine a_op ?_
 refine s_nil (r_false ?_)
 refine q_next ?_
 refine k_seq ?_
 refine k_seq ?_
 refine k_region rfl ?_
 refine a_op ?_
 refine a_isnil false ?_
 refine a_op ?_
 first | refine a_go ?_ | refine a_no ?_ | refine a_may ?_
 refine a_isnilgo false ?_
 refine a_op ?_
 refine s_nil (r_false ?_)
 refine q_next ?_
 refine a_false ?_
 refine k_skip ?_
 refine q_next ?_
 refine k_seq ?_
 refine k_region rfl ?_
 refine a_op ?_
 refine a_ext #[.iface 179 (.string (S s'))] (.iface 188 (.agg #[.pointer (some ⟨2, 179, none⟩)])) ?_ (rq_ext131 _)
 refine a_extm (.bool true) (ty := 188) (v := .agg #[.pointer (some ⟨2, 179, none⟩)]) (v' := .agg #[.pointer (some ⟨2, 179, none⟩)]) (f := 222) ?_ (by intro w; kernel_rfl) rq_ext222
 refine a_op ?_
 refine s_nil (r_false ?_)
 refine q_next ?_
 refine k_seq ?_
 refine k_region rfl ?_
 iterate 3 refine a_op ?_
 refine a_call [] false (rq_isin_good Γ p s s' b hb) ?_
 refine a_op ?_
 refine s_nil (r_false ?_)
 refine q_next ?_
 refine k_ret ?_
 refine ⟨.inr rfl, a_ret [] (by rw [results125]) ?_ ?_ ?_⟩ <;> simp [-List.map_set, -List.map_replicate, -List.reduceReplicate, -List.map_map, -List.map_drop, -List.map_take, num, bol, txt, w8, w16, w32, w64, lst, cls, rowO, boxO, List.take_of_length_le]

theorem rq_isnil_good (Γ : Gl) (s' : List UInt8) : Go.Ot.Good Γ prog 125 [.t (.v .nilIface), .t (.ifc 179 (txt s'))] [] (.t (bol false)) [] [] := by
 refine a_body F.mix func125 (by rfl) ntmps125 ?_
 refine k_seq ?_
 refine k_region rfl ?_
 refine a_op ?_
 refine s_nil (r_false ?_)
 refine q_next ?_
 refine k_seq ?_
 refine k_seq ?_
 refine k_region rfl ?_
 refine a_op ?_
 refine a_nilnil false ?_
 refine a_op ?_
 refine a_no ?_
 refine a_no ?_
 refine a_op ?_
 refine s_nil (r_false ?_)
 refine q_next ?_
 refine a_true ?_
 refine k_seq ?_
 refine k_region rfl ?_
 refine a_op ?_
 refine a_op ?_
 refine a_plain (.bool false) ?_
 refine a_op ?_
 refine s_nil (r_false ?_)
 refine q_next ?_
 refine k_ret ?_
 refine q_seq_ret ?_
 refine ⟨.inr rfl, a_ret [] (by rw [results125]) ?_ ?_ ?_⟩ <;> simp [-List.map_set, -List.map_replicate, -List.reduceReplicate, -List.map_map, -List.map_drop, -List.map_take, num, bol, txt, w8, w16, w32, w64, lst, cls, rowO, boxO, List.take_of_length_le]

theorem rq_eq_cc (w : World) : (binOp .eql 81 (.iface 179 (.string (S [99, 117, 116, 32, 115, 104, 111, 114, 116]))) (.iface 179 (.string (S [99, 117, 116, 32, 115, 104, 111, 114, 116])))).run prog w = .ok (.bool true) w := by kernel_rfl
theorem rq_eq_fc (w : World) : (binOp .eql 81 (.iface 179 (.string (S [115, 111, 109, 101, 116, 104, 105, 110, 103, 32, 101, 108, 115, 101]))) (.iface 179 (.string (S [99, 117, 116, 32, 115, 104, 111, 114, 116])))).run prog w = .ok (.bool false) w := by kernel_rfl
theorem rq_eq_ff (w : World) : (binOp .eql 81 (.iface 179 (.string (S [115, 111, 109, 101, 116, 104, 105, 110, 103, 32, 101, 108, 115, 101]))) (.iface 179 (.string (S [115, 111, 109, 101, 116, 104, 105, 110, 103, 32, 101, 108, 115, 101])))).run prog w = .ok (.bool true) w := by kernel_rfl
end Go.Proofs.Tryz
