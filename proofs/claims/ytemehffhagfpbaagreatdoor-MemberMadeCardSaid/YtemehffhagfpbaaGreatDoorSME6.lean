/- Contracts of this program's functions. -/
import Derived.Test.YtemehffhagfpbaaGreatDoorSME1
import Derived.Test.YtemehffhagfpbaaGreatDoorOtE
import Derived.Test.YtemehffhagfpbaaGreatDoorOtD
set_option maxHeartbeats 4000000
set_option maxRecDepth 100000
set_option linter.unusedVariables false
set_option linter.unusedSimpArgs false
namespace Go.Proofs.Tryz
open Go Go.Ot
attribute [local irreducible] wpK wpS seqK blockK loopF regK meetK OpSpec Le
theorem mb_unwrap_good (Γ : Gl) (p : Int) (v : Value) (h1 : v.oneCell' = true) : Go.Ot.Good Γ prog 111 [.agg [.t (.v (.int .i64 p)), .t (.v v)]] [] (.t (.v v)) [] [] := by
 refine a_body F.mix func111 (by rfl) ntmps111 ?_
 refine k_seq ?_
 refine k_region rfl ?_
 refine a_op (hs := by (simp only [push_cast, h1] <;> rfl)) ?_
 refine a_op ?_
 refine s_nil (r_false ?_)
 refine q_next ?_
 refine k_seq ?_
 refine k_region rfl ?_
 iterate 3 refine a_op ?_
 refine s_nil (r_false ?_)
 refine q_next ?_
 refine k_ret ?_
 refine ⟨.inr rfl, a_ret [] (by rw [results111]) ?_ ?_ ?_⟩ <;> simp [-List.map_set, -List.map_replicate, -List.reduceReplicate, -List.map_map, -List.map_drop, -List.map_take, num, bol, txt, w8, w16, w32, w64, lst, cls, rowO, boxO, List.take_of_length_le, h1]

theorem mb_lk101_62 (v : Value) (xT : TypeId) (w : World) : (Instr.typeAssert (.iface 62 v) xT 101 true).run prog w = .ok (.tuple #[.nilIface, .bool false]) w := run_typeAssert_lacksB underlying101 (by kernel_rfl) (by kernel_rfl) v xT w
theorem mb_lk101_44 (v : Value) (xT : TypeId) (w : World) : (Instr.typeAssert (.iface 44 v) xT 101 true).run prog w = .ok (.tuple #[.nilIface, .bool false]) w := run_typeAssert_lacksB underlying101 (by kernel_rfl) (by kernel_rfl) v xT w
theorem mb_lk104_44 (v : Value) (xT : TypeId) (w : World) : (Instr.typeAssert (.iface 44 v) xT 104 true).run prog w = .ok (.tuple #[.nilIface, .bool false]) w := run_typeAssert_lacksB underlying104 (by kernel_rfl) (by kernel_rfl) v xT w
theorem mb_lk106_62 (v : Value) (xT : TypeId) (w : World) : (Instr.typeAssert (.iface 62 v) xT 106 true).run prog w = .ok (.tuple #[.nilIface, .bool false]) w := run_typeAssert_lacksB underlying106 (by kernel_rfl) (by kernel_rfl) v xT w
theorem mb_lk106_44 (v : Value) (xT : TypeId) (w : World) : (Instr.typeAssert (.iface 44 v) xT 106 true).run prog w = .ok (.tuple #[.nilIface, .bool false]) w := run_typeAssert_lacksB underlying106 (by kernel_rfl) (by kernel_rfl) v xT w
theorem mb_hs104_62 (v : Value) (xT : TypeId) (w : World) : (Instr.typeAssert (.iface 62 v) xT 104 true).run prog w = .ok (.tuple #[.iface 62 v, .bool true]) w := run_typeAssert_hasB underlying104 (by kernel_rfl) v xT w
theorem mb_isin_good (Γ : Gl) (p : Int) (s s' : List UInt8) (b : Bool) (hb : ∀ w, (binOp .eql 41 (.iface 44 (.string (S s))) (.iface 44 (.string (S s')))).run prog w = .ok (.bool b) w) : Go.Ot.Good Γ prog 34 [.t (.ifc 62 (.agg [num p, .ifc 44 (txt s)])), .t (.ifc 44 (txt s')), .t (bol true)] [] (.t (bol b)) [] [] := by
 refine a_body F.mix func34 (by rfl) ntmps34 ?_
 refine k_seq ?_
 refine k_region rfl ?_
 refine a_op ?_
 refine s_nil (r_false ?_)
 refine q_next ?_
 refine k_block ?_
 refine k_loopF (fun sl L (q : Bool) => ⟨setAll (setBad sl [6, 7, 8, 9, 10, 12, 13, 14, 15, 16, 17, 18, 19, 20, 21, 22, 23, 24, 25, 26, 27, 28, 29, 30, 31, 32, 33, 34, 35, 36, 37, 38, 39, 40, 41, 42, 43, 44, 45, 46, 47, 48, 49, 50, 51, 52, 53]) [(0, if q = true then .t (.v (.iface 44 (.string (S s)))) else .t (.ifc 62 (.agg [num p, .ifc 44 (txt s)])))], Go.Ot.look (L)⟩) (fun q => True) (fun q => if q = true then 0 else 1) (false) (a_le ?_) ?_ ?_
 ·refine le_same ?_ ?_ ?_ <;> simp [-List.map_set, -List.map_replicate, -List.reduceReplicate, -List.map_map, -List.map_drop, -List.map_take, num, bol, txt, w8, w16, w32, w64, lst, cls, rowO, boxO, List.take_of_length_le]
 ·trivial
 ·intro q _
  cases q
  ·refine a_st ?_
   refine k_block ?_
   refine k_seq ?_
   refine k_seq ?_
   refine k_region rfl ?_
   refine a_op ?_
   refine a_op ?_
   first | refine a_go ?_ | refine a_no ?_ | refine a_may ?_
   first | refine a_go ?_ | refine a_no ?_ | refine a_may ?_
   refine a_plaingo (.bool false) ?_
   refine a_op ?_
   refine s_nil (r_false ?_)
   refine q_next ?_
   refine a_false ?_
   refine k_skip ?_
   refine q_next ?_
   refine k_seq ?_
   refine k_seq ?_
   refine k_region rfl ?_
   refine a_op ?_
   refine a_assert (.iface 62 (.agg #[.int .i64 p, .iface 44 (.string (S s))])) (.tuple #[.nilIface, .bool false]) ?_ (mb_lk101_62 _ _)
   refine a_op ?_
   refine a_plain (.nilIface) ?_
   refine a_plain (.bool false) ?_
   refine a_op ?_
   refine a_op ?_
   refine s_nil (r_false ?_)
   refine q_next ?_
   refine k_seq ?_
   refine k_region rfl ?_
   refine a_op ?_
   refine a_op ?_
   first | refine a_go ?_ | refine a_no ?_ | refine a_may ?_
   first | refine a_go ?_ | refine a_no ?_ | refine a_may ?_
   first | refine a_go ?_ | refine a_no ?_ | refine a_may ?_
   refine a_op ?_
   refine s_nil (r_false ?_)
   refine q_next ?_
   refine a_false ?_
   refine k_skip ?_
   refine q_next ?_
   refine k_seq ?_
   refine k_region rfl ?_
   refine a_op ?_
   refine s_nil (r_false ?_)
   refine q_next ?_
   refine k_block ?_
   refine k_seq ?_
   refine k_region rfl ?_
   refine a_assert (.iface 62 (.agg #[.int .i64 p, .iface 44 (.string (S s))])) (.tuple #[.iface 62 (.agg #[.int .i64 p, .iface 44 (.string (S s))]), .bool true]) ?_ (mb_hs104_62 _ _)
   refine a_plain (.bool true) ?_
   refine a_plain (.iface 62 (.agg #[.int .i64 p, .iface 44 (.string (S s))])) ?_
   refine s_nil (r_false ?_)
   refine q_next ?_
   refine a_true ?_
   refine k_seq ?_
   refine k_region rfl ?_
   refine a_op ?_
   refine s_nil (r_false ?_)
   refine q_next ?_
   refine k_seq ?_
   refine k_region rfl ?_
   refine a_op ?_
   refine a_invoke [] false (mb_unwrap_good Γ p (.iface 44 (.string (S s))) rfl) ?_ (ty := 62) (v := .agg #[.int .i64 p, .iface 44 (.string (S s))]) (v' := .agg #[.int .i64 p, .iface 44 (.string (S s))]) (f := 111) rfl (by intro w; kernel_rfl)
   refine a_op ?_
   refine s_nil (r_false ?_)
   refine q_next ?_
   refine k_seq ?_
   refine k_region rfl ?_
   refine a_op ?_
   refine a_plain (.bool false) ?_
   refine s_nil (r_false ?_)
   refine q_next ?_
   refine a_false ?_
   refine k_skip ?_
   refine q_block (q_block (q_loopF (true) (a_le ?_) ?_ ?_))
   ·refine le_same ?_ ?_ ?_ <;> simp [-List.map_set, -List.map_replicate, -List.reduceReplicate, -List.map_map, -List.map_drop, -List.map_take, num, bol, txt, w8, w16, w32, w64, lst, cls, rowO, boxO, List.take_of_length_le]
   ·trivial
   ·simp
  ·refine a_st ?_
   refine k_block ?_
   refine k_seq ?_
   refine k_seq ?_
   refine k_region rfl ?_
   refine a_op ?_
   refine a_op ?_
   first | refine a_go ?_ | refine a_no ?_ | refine a_may ?_
   first | refine a_go ?_ | refine a_no ?_ | refine a_may ?_
   refine a_eqvgo (.bool b) ?_ hb
   refine a_op ?_
   refine s_nil (r_false ?_)
   refine q_next ?_
   refine a_if (fun hc0 => ?_) (fun hc0 => ?_)
   ·(try simp only [Bool.and_eq_true, Bool.or_eq_true, Bool.or_eq_false_iff, Bool.not_eq_true', Bool.not_eq_false', dec_t, dec_f, Bool.and_eq_false_imp, beq_iff_eq, beq_eq_false_iff_ne, ne_eq] at hc0)
    subst hc0
    refine k_seq ?_
    refine k_region rfl ?_
    refine a_op ?_
    refine s_nil (r_false ?_)
    refine q_next ?_
    refine k_ret ?_
    refine q_seq_ret (q_block_ret (q_loopF_ret (q_block_ret ?_)))
    refine ⟨.inr rfl, a_ret [] (by rw [results34]) ?_ ?_ ?_⟩ <;> simp [-List.map_set, -List.map_replicate, -List.reduceReplicate, -List.map_map, -List.map_drop, -List.map_take, num, bol, txt, w8, w16, w32, w64, lst, cls, rowO, boxO, List.take_of_length_le]
   ·(try simp only [Bool.and_eq_true, Bool.or_eq_true, Bool.or_eq_false_iff, Bool.not_eq_true', Bool.not_eq_false', dec_t, dec_f, Bool.and_eq_false_imp, beq_iff_eq, beq_eq_false_iff_ne, ne_eq] at hc0)
    subst hc0
    refine k_skip ?_
    refine q_next ?_
    refine k_seq ?_
    refine k_seq ?_
    refine k_region rfl ?_
    refine a_op ?_
    refine a_assert (.iface 44 (.string (S s))) (.tuple #[.nilIface, .bool false]) ?_ (mb_lk101_44 _ _)
    refine a_op ?_
    refine a_plain (.nilIface) ?_
    refine a_plain (.bool false) ?_
    refine a_op ?_
    refine a_op ?_
    refine s_nil (r_false ?_)
    refine q_next ?_
    refine k_seq ?_
    refine k_region rfl ?_
    refine a_op ?_
    refine a_op ?_
    first | refine a_go ?_ | refine a_no ?_ | refine a_may ?_
    first | refine a_go ?_ | refine a_no ?_ | refine a_may ?_
    first | refine a_go ?_ | refine a_no ?_ | refine a_may ?_
    refine a_op ?_
    refine s_nil (r_false ?_)
    refine q_next ?_
    refine a_false ?_
    refine k_skip ?_
    refine q_next ?_
    refine k_seq ?_
    refine k_region rfl ?_
    refine a_op ?_
    refine s_nil (r_false ?_)
    refine q_next ?_
    refine k_block ?_
    refine k_seq ?_
    refine k_region rfl ?_
    refine a_assert (.iface 44 (.string (S s))) (.tuple #[.nilIface, .bool false]) ?_ (mb_lk104_44 _ _)
    refine a_plain (.bool false) ?_
    refine a_plain (.nilIface) ?_
    refine s_nil (r_false ?_)
    refine q_next ?_
    refine a_false ?_
    refine k_seq ?_
    refine k_region rfl ?_
    refine a_assert (.iface 44 (.string (S s))) (.tuple #[.nilIface, .bool false]) ?_ (mb_lk106_44 _ _)
    refine a_plain (.bool false) ?_
    refine a_plain (.nilIface) ?_
    refine s_nil (r_false ?_)
    refine q_next ?_
    refine a_false ?_
    refine k_seq ?_
    refine k_region rfl ?_
    refine a_op ?_
    refine s_nil (r_false ?_)
    refine q_next ?_
    refine k_seq ?_
    refine k_region rfl ?_
    refine a_op ?_
    refine s_nil (r_false ?_)
    refine q_next ?_
    refine k_ret ?_
    refine q_block_ret (q_block_ret (q_loopF_ret (q_block_ret ?_)))
    refine ⟨.inr rfl, a_ret [] (by rw [results34]) ?_ ?_ ?_⟩ <;> simp [-List.map_set, -List.map_replicate, -List.reduceReplicate, -List.map_map, -List.map_drop, -List.map_take, num, bol, txt, w8, w16, w32, w64, lst, cls, rowO, boxO, List.take_of_length_le]

theorem mb_ext33 (v : Value) (w : World) : (callFunc 33 #[.iface 44 v]).run prog w = .ok (.value (.iface 99 (.agg #[.pointer (some ⟨2, 44, none⟩)]))) w := by
 rw [run_callFunc_extern func33 (by kernel_rfl) (by kernel_rfl) (by kernel_rfl) (e := Extern.ReflectliteType.typeOf) (by kernel_rfl)]
 kernel_rfl
theorem mb_ext115 (w : World) : (callFunc 115 #[.agg #[.pointer (some ⟨2, 44, none⟩)]]).run prog w = .ok (.value (.bool true)) w := by
 rw [run_callFunc_extern func115 (by kernel_rfl) (by kernel_rfl) (by kernel_rfl) (e := Extern.ReflectliteType.method (fun t => do Extern.Rtype.noPackHeld "Comparable" t; pure (.bool (← typeInfo t).comparable))) (by kernel_rfl)]
 kernel_rfl
theorem mb_is_good (Γ : Gl) (p : Int) (s s' : List UInt8) (b : Bool) (hb : ∀ w, (binOp .eql 41 (.iface 44 (.string (S s))) (.iface 44 (.string (S s')))).run prog w = .ok (.bool b) w) : Go.Ot.Good Γ prog 17 [.t (.ifc 62 (.agg [num p, .ifc 44 (txt s)])), .t (.ifc 44 (txt s'))] [] (.t (bol b)) [] [] := by
 refine a_body F.mix func17 (by rfl) ntmps17 ?_
 refine k_seq ?_
 refine k_region rfl ?_
 refine a_op ?_
 refine s_nil (r_false ?_)
 refine q_next ?_
 refine k_seq ?_
 refine k_seq ?_
 refine k_region rfl ?_
 refine a_op ?_
 refine a_isnil false ?_
 refine a_op ?_
 first | refine a_go ?_ | refine a_no ?_ | refine a_may ?_
 refine a_isnilgo false ?_
 refine a_op ?_
 refine s_nil (r_false ?_)
 refine q_next ?_
 refine a_false ?_
 refine k_skip ?_
 refine q_next ?_
 refine k_seq ?_
 refine k_region rfl ?_
 refine a_op ?_
 refine a_ext #[.iface 44 (.string (S s'))] (.iface 99 (.agg #[.pointer (some ⟨2, 44, none⟩)])) ?_ (mb_ext33 _)
 refine a_extm (.bool true) (ty := 99) (v := .agg #[.pointer (some ⟨2, 44, none⟩)]) (v' := .agg #[.pointer (some ⟨2, 44, none⟩)]) (f := 115) ?_ (by intro w; kernel_rfl) mb_ext115
 refine a_op ?_
 refine s_nil (r_false ?_)
 refine q_next ?_
 refine k_seq ?_
 refine k_region rfl ?_
 iterate 3 refine a_op ?_
 refine a_call [] false (mb_isin_good Γ p s s' b hb) ?_
 refine a_op ?_
 refine s_nil (r_false ?_)
 refine q_next ?_
 refine k_ret ?_
 refine ⟨.inr rfl, a_ret [] (by rw [results17]) ?_ ?_ ?_⟩ <;> simp [-List.map_set, -List.map_replicate, -List.reduceReplicate, -List.map_map, -List.map_drop, -List.map_take, num, bol, txt, w8, w16, w32, w64, lst, cls, rowO, boxO, List.take_of_length_le]

theorem mb_isnil_good (Γ : Gl) (s' : List UInt8) : Go.Ot.Good Γ prog 17 [.t (.v .nilIface), .t (.ifc 44 (txt s'))] [] (.t (bol false)) [] [] := by
 refine a_body F.mix func17 (by rfl) ntmps17 ?_
 refine k_seq ?_
 refine k_region rfl ?_
 refine a_op ?_
 refine s_nil (r_false ?_)
 refine q_next ?_
 refine k_seq ?_
 refine k_seq ?_
 refine k_region rfl ?_
 refine a_op ?_
 refine a_nilnil false ?_
 refine a_op ?_
 refine a_no ?_
 refine a_no ?_
 refine a_op ?_
 refine s_nil (r_false ?_)
 refine q_next ?_
 refine a_true ?_
 refine k_seq ?_
 refine k_region rfl ?_
 refine a_op ?_
 refine a_op ?_
 refine a_plain (.bool false) ?_
 refine a_op ?_
 refine s_nil (r_false ?_)
 refine q_next ?_
 refine k_ret ?_
 refine q_seq_ret ?_
 refine ⟨.inr rfl, a_ret [] (by rw [results17]) ?_ ?_ ?_⟩ <;> simp [-List.map_set, -List.map_replicate, -List.reduceReplicate, -List.map_map, -List.map_drop, -List.map_take, num, bol, txt, w8, w16, w32, w64, lst, cls, rowO, boxO, List.take_of_length_le]

theorem mb_eq_ff (w : World) : (binOp .eql 41 (.iface 44 (.string (S [110, 111, 32, 114, 101, 99, 111, 114, 100]))) (.iface 44 (.string (S [110, 111, 32, 114, 101, 99, 111, 114, 100])))).run prog w = .ok (.bool true) w := by kernel_rfl
theorem mb_eq_fl (w : World) : (binOp .eql 41 (.iface 44 (.string (S [110, 111, 32, 114, 101, 99, 111, 114, 100]))) (.iface 44 (.string (S [97, 110, 111, 116, 104, 101, 114, 32, 114, 101, 99, 111, 114, 100, 32, 97, 104, 101, 97, 100])))).run prog w = .ok (.bool false) w := by kernel_rfl
theorem mb_eq_fr (w : World) : (binOp .eql 41 (.iface 44 (.string (S [110, 111, 32, 114, 101, 99, 111, 114, 100]))) (.iface 44 (.string (S [97, 32, 109, 101, 109, 98, 101, 114, 32, 116, 104, 97, 116, 32, 105, 115, 32, 110, 111, 110, 101, 44, 32, 111, 114, 32, 110, 111, 110, 101, 32, 116, 104, 97, 116, 32, 105, 115, 32, 111, 110, 101])))).run prog w = .ok (.bool false) w := by kernel_rfl
theorem mb_eq_lf (w : World) : (binOp .eql 41 (.iface 44 (.string (S [97, 110, 111, 116, 104, 101, 114, 32, 114, 101, 99, 111, 114, 100, 32, 97, 104, 101, 97, 100]))) (.iface 44 (.string (S [110, 111, 32, 114, 101, 99, 111, 114, 100])))).run prog w = .ok (.bool false) w := by kernel_rfl
theorem mb_eq_ll (w : World) : (binOp .eql 41 (.iface 44 (.string (S [97, 110, 111, 116, 104, 101, 114, 32, 114, 101, 99, 111, 114, 100, 32, 97, 104, 101, 97, 100]))) (.iface 44 (.string (S [97, 110, 111, 116, 104, 101, 114, 32, 114, 101, 99, 111, 114, 100, 32, 97, 104, 101, 97, 100])))).run prog w = .ok (.bool true) w := by kernel_rfl
theorem mb_eq_lr (w : World) : (binOp .eql 41 (.iface 44 (.string (S [97, 110, 111, 116, 104, 101, 114, 32, 114, 101, 99, 111, 114, 100, 32, 97, 104, 101, 97, 100]))) (.iface 44 (.string (S [97, 32, 109, 101, 109, 98, 101, 114, 32, 116, 104, 97, 116, 32, 105, 115, 32, 110, 111, 110, 101, 44, 32, 111, 114, 32, 110, 111, 110, 101, 32, 116, 104, 97, 116, 32, 105, 115, 32, 111, 110, 101])))).run prog w = .ok (.bool false) w := by kernel_rfl
theorem mb_eq_rf (w : World) : (binOp .eql 41 (.iface 44 (.string (S [97, 32, 109, 101, 109, 98, 101, 114, 32, 116, 104, 97, 116, 32, 105, 115, 32, 110, 111, 110, 101, 44, 32, 111, 114, 32, 110, 111, 110, 101, 32, 116, 104, 97, 116, 32, 105, 115, 32, 111, 110, 101]))) (.iface 44 (.string (S [110, 111, 32, 114, 101, 99, 111, 114, 100])))).run prog w = .ok (.bool false) w := by kernel_rfl
theorem mb_eq_rl (w : World) : (binOp .eql 41 (.iface 44 (.string (S [97, 32, 109, 101, 109, 98, 101, 114, 32, 116, 104, 97, 116, 32, 105, 115, 32, 110, 111, 110, 101, 44, 32, 111, 114, 32, 110, 111, 110, 101, 32, 116, 104, 97, 116, 32, 105, 115, 32, 111, 110, 101]))) (.iface 44 (.string (S [97, 110, 111, 116, 104, 101, 114, 32, 114, 101, 99, 111, 114, 100, 32, 97, 104, 101, 97, 100])))).run prog w = .ok (.bool false) w := by kernel_rfl
theorem mb_eq_rr (w : World) : (binOp .eql 41 (.iface 44 (.string (S [97, 32, 109, 101, 109, 98, 101, 114, 32, 116, 104, 97, 116, 32, 105, 115, 32, 110, 111, 110, 101, 44, 32, 111, 114, 32, 110, 111, 110, 101, 32, 116, 104, 97, 116, 32, 105, 115, 32, 111, 110, 101]))) (.iface 44 (.string (S [97, 32, 109, 101, 109, 98, 101, 114, 32, 116, 104, 97, 116, 32, 105, 115, 32, 110, 111, 110, 101, 44, 32, 111, 114, 32, 110, 111, 110, 101, 32, 116, 104, 97, 116, 32, 105, 115, 32, 111, 110, 101])))).run prog w = .ok (.bool true) w := by kernel_rfl
end Go.Proofs.Tryz
