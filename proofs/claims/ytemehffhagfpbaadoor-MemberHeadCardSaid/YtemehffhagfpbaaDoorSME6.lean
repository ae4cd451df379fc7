/- Contracts of this program's functions. -/
import Derived.Test.YtemehffhagfpbaaDoorSME1
import Derived.Test.YtemehffhagfpbaaDoorOtE
import Derived.Test.YtemehffhagfpbaaDoorOtD
set_option maxHeartbeats 4000000
set_option maxRecDepth 100000
set_option linter.unusedVariables false
set_option linter.unusedSimpArgs false
namespace Go.Proofs.Tryd
open Go Go.Ot
attribute [local irreducible] wpK wpS seqK blockK loopF regK meetK OpSpec Le
theorem mb_unwrap_good (Γ : Gl) (p : Int) (v : Value) (h1 : v.oneCell' = true) : Go.Ot.Good Γ prog 99 [.agg [.t (.v (.int .i64 p)), .t (.v v)]] [] (.t (.v v)) [] [] := by
  refine a_body F.mix func99 (by rfl) ntmps99 ?_
  refine k_seq ?_
  refine k_region rfl ?_
  refine a_op (hs := by (simp only [push_cast, h1] <;> rfl)) ?_
  refine a_op ?_
  refine s_nil (r_false ?_)
  refine q_next ?_
  refine k_seq ?_
  refine k_region rfl ?_
  iterate 3 refine a_op ?_
  refine s_nil (r_false ?_)
  refine q_next ?_
  refine k_ret ?_
  refine ⟨.inr rfl, a_ret [] (by rw [results99]) ?_ ?_ ?_⟩ <;> simp [-List.map_set, -List.map_replicate, -List.reduceReplicate, -List.map_map, -List.map_drop, -List.map_take, num, bol, txt, w8, w16, w32, w64, lst, cls, rowO, boxO, List.take_of_length_le, h1]

theorem mb_lk113_77 (v : Value) (xT : TypeId) (w : World) : (Instr.typeAssert (.iface 77 v) xT 113 true).run prog w = .ok (.tuple #[.nilIface, .bool false]) w := run_typeAssert_lacksB underlying113 (by kernel_rfl) (by kernel_rfl) v xT w
theorem mb_lk113_45 (v : Value) (xT : TypeId) (w : World) : (Instr.typeAssert (.iface 45 v) xT 113 true).run prog w = .ok (.tuple #[.nilIface, .bool false]) w := run_typeAssert_lacksB underlying113 (by kernel_rfl) (by kernel_rfl) v xT w
theorem mb_lk116_45 (v : Value) (xT : TypeId) (w : World) : (Instr.typeAssert (.iface 45 v) xT 116 true).run prog w = .ok (.tuple #[.nilIface, .bool false]) w := run_typeAssert_lacksB underlying116 (by kernel_rfl) (by kernel_rfl) v xT w
theorem mb_lk118_77 (v : Value) (xT : TypeId) (w : World) : (Instr.typeAssert (.iface 77 v) xT 118 true).run prog w = .ok (.tuple #[.nilIface, .bool false]) w := run_typeAssert_lacksB underlying118 (by kernel_rfl) (by kernel_rfl) v xT w
theorem mb_lk118_45 (v : Value) (xT : TypeId) (w : World) : (Instr.typeAssert (.iface 45 v) xT 118 true).run prog w = .ok (.tuple #[.nilIface, .bool false]) w := run_typeAssert_lacksB underlying118 (by kernel_rfl) (by kernel_rfl) v xT w
theorem mb_hs116_77 (v : Value) (xT : TypeId) (w : World) : (Instr.typeAssert (.iface 77 v) xT 116 true).run prog w = .ok (.tuple #[.iface 77 v, .bool true]) w := run_typeAssert_hasB underlying116 (by kernel_rfl) v xT w
theorem mb_isin_good (Γ : Gl) (p : Int) (s s' : List UInt8) (b : Bool) (hb : ∀ w, (binOp .eql 42 (.iface 45 (.string (S s))) (.iface 45 (.string (S s')))).run prog w = .ok (.bool b) w) : Go.Ot.Good Γ prog 39 [.t (.ifc 77 (.agg [num p, .ifc 45 (txt s)])), .t (.ifc 45 (txt s')), .t (bol true)] [] (.t (bol b)) [] [] := by
  refine a_body F.mix func39 (by rfl) ntmps39 ?_
  refine k_seq ?_
  refine k_region rfl ?_
  refine a_op ?_
  refine s_nil (r_false ?_)
  refine q_next ?_
  refine k_block ?_
  refine k_loopF (fun sl L (q : Bool) => ⟨setAll (setBad sl [6, 7, 8, 9, 10, 12, 13, 14, 15, 16, 17, 18, 19, 20, 21, 22, 23, 24, 25, 26, 27, 28, 29, 30, 31, 32, 33, 34, 35, 36, 37, 38, 39, 40, 41, 42, 43, 44, 45, 46, 47, 48, 49, 50, 51, 52, 53]) [(0, if q = true then .t (.v (.iface 45 (.string (S s)))) else .t (.ifc 77 (.agg [num p, .ifc 45 (txt s)])))], Go.Ot.look (L)⟩) (fun q => True) (fun q => if q = true then 0 else 1) (false) (a_le ?_) ?_ ?_
  · refine le_same ?_ ?_ ?_ <;> simp [-List.map_set, -List.map_replicate, -List.reduceReplicate, -List.map_map, -List.map_drop, -List.map_take, num, bol, txt, w8, w16, w32, w64, lst, cls, rowO, boxO, List.take_of_length_le]
  · trivial
  · intro q _
    cases q
    · refine a_st ?_
      refine k_block ?_
      refine k_seq ?_
      refine k_seq ?_
      refine k_region rfl ?_
      refine a_op ?_
      refine a_op ?_
      first | refine a_go ?_ | refine a_no ?_ | refine a_may ?_
      first | refine a_go ?_ | refine a_no ?_ | refine a_may ?_
      refine a_plaingo (.bool false) ?_
      refine a_op ?_
      refine s_nil (r_false ?_)
      refine q_next ?_
      refine a_false ?_
      refine k_skip ?_
      refine q_next ?_
      refine k_seq ?_
      refine k_seq ?_
      refine k_region rfl ?_
      refine a_op ?_
      refine a_assert (.iface 77 (.agg #[.int .i64 p, .iface 45 (.string (S s))])) (.tuple #[.nilIface, .bool false]) ?_ (mb_lk113_77 _ _)
      refine a_op ?_
      refine a_plain (.nilIface) ?_
      refine a_plain (.bool false) ?_
      refine a_op ?_
      refine a_op ?_
      refine s_nil (r_false ?_)
      refine q_next ?_
      refine k_seq ?_
      refine k_region rfl ?_
      refine a_op ?_
      refine a_op ?_
      first | refine a_go ?_ | refine a_no ?_ | refine a_may ?_
      first | refine a_go ?_ | refine a_no ?_ | refine a_may ?_
      first | refine a_go ?_ | refine a_no ?_ | refine a_may ?_
      refine a_op ?_
      refine s_nil (r_false ?_)
      refine q_next ?_
      refine a_false ?_
      refine k_skip ?_
      refine q_next ?_
      refine k_seq ?_
      refine k_region rfl ?_
      refine a_op ?_
      refine s_nil (r_false ?_)
      refine q_next ?_
      refine k_block ?_
      refine k_seq ?_
      refine k_region rfl ?_
      refine a_assert (.iface 77 (.agg #[.int .i64 p, .iface 45 (.string (S s))])) (.tuple #[.iface 77 (.agg #[.int .i64 p, .iface 45 (.string (S s))]), .bool true]) ?_ (mb_hs116_77 _ _)
      refine a_plain (.bool true) ?_
      refine a_plain (.iface 77 (.agg #[.int .i64 p, .iface 45 (.string (S s))])) ?_
      refine s_nil (r_false ?_)
      refine q_next ?_
      refine a_true ?_
      refine k_seq ?_
      refine k_region rfl ?_
      refine a_op ?_
      refine s_nil (r_false ?_)
      refine q_next ?_
      refine k_seq ?_
      refine k_region rfl ?_
      refine a_op ?_
      refine a_invoke [] false (mb_unwrap_good Γ p (.iface 45 (.string (S s))) rfl) ?_ (ty := 77) (v := .agg #[.int .i64 p, .iface 45 (.string (S s))]) (v' := .agg #[.int .i64 p, .iface 45 (.string (S s))]) (f := 99) rfl (by intro w; kernel_rfl)
      refine a_op ?_
      refine s_nil (r_false ?_)
      refine q_next ?_
      refine k_seq ?_
      refine k_region rfl ?_
      refine a_op ?_
      refine a_plain (.bool false) ?_
      refine s_nil (r_false ?_)
      refine q_next ?_
      refine a_false ?_
      refine k_skip ?_
      refine q_block (q_block (q_loopF (true) (a_le ?_) ?_ ?_))
      · refine le_same ?_ ?_ ?_ <;> simp [-List.map_set, -List.map_replicate, -List.reduceReplicate, -List.map_map, -List.map_drop, -List.map_take, num, bol, txt, w8, w16, w32, w64, lst, cls, rowO, boxO, List.take_of_length_le]
      · trivial
      · simp
    · refine a_st ?_
      refine k_block ?_
      refine k_seq ?_
      refine k_seq ?_
      refine k_region rfl ?_
      refine a_op ?_
      refine a_op ?_
      first | refine a_go ?_ | refine a_no ?_ | refine a_may ?_
      first | refine a_go ?_ | refine a_no ?_ | refine a_may ?_
      refine a_eqvgo (.bool b) ?_ hb
      refine a_op ?_
      refine s_nil (r_false ?_)
      refine q_next ?_
      refine a_if (fun hc0 => ?_) (fun hc0 => ?_)
      · (try simp only [Bool.and_eq_true, Bool.or_eq_true, Bool.or_eq_false_iff, Bool.not_eq_true', Bool.not_eq_false', dec_t, dec_f, Bool.and_eq_false_imp, beq_iff_eq, beq_eq_false_iff_ne, ne_eq] at hc0)
        subst hc0
        refine k_seq ?_
        refine k_region rfl ?_
        refine a_op ?_
        refine s_nil (r_false ?_)
        refine q_next ?_
        refine k_ret ?_
        refine q_seq_ret (q_block_ret (q_loopF_ret (q_block_ret ?_)))
        refine ⟨.inr rfl, a_ret [] (by rw [results39]) ?_ ?_ ?_⟩ <;> simp [-List.map_set, -List.map_replicate, -List.reduceReplicate, -List.map_map, -List.map_drop, -List.map_take, num, bol, txt, w8, w16, w32, w64, lst, cls, rowO, boxO, List.take_of_length_le]
      · (try simp only [Bool.and_eq_true, Bool.or_eq_true, Bool.or_eq_false_iff, Bool.not_eq_true', Bool.not_eq_false', dec_t, dec_f, Bool.and_eq_false_imp, beq_iff_eq, beq_eq_false_iff_ne, ne_eq] at hc0)
        subst hc0
        refine k_skip ?_
        refine q_next ?_
        refine k_seq ?_
        refine k_seq ?_
        refine k_region rfl ?_
        refine a_op ?_
        refine a_assert (.iface 45 (.string (S s))) (.tuple #[.nilIface, .bool false]) ?_ (mb_lk113_45 _ _)
        refine a_op ?_
        refine a_plain (.nilIface) ?_
        refine a_plain (.bool false) ?_
        refine a_op ?_
        refine a_op ?_
        refine s_nil (r_false ?_)
        refine q_next ?_
        refine k_seq ?_
        refine k_region rfl ?_
        refine a_op ?_
        refine a_op ?_
        first | refine a_go ?_ | refine a_no ?_ | refine a_may ?_
        first | refine a_go ?_ | refine a_no ?_ | refine a_may ?_
        first | refine a_go ?_ | refine a_no ?_ | refine a_may ?_
        refine a_op ?_
        refine s_nil (r_false ?_)
        refine q_next ?_
        refine a_false ?_
        refine k_skip ?_
        refine q_next ?_
        refine k_seq ?_
        refine k_region rfl ?_
        refine a_op ?_
        refine s_nil (r_false ?_)
        refine q_next ?_
        refine k_block ?_
        refine k_seq ?_
        refine k_region rfl ?_
        refine a_assert (.iface 45 (.string (S s))) (.tuple #[.nilIface, .bool false]) ?_ (mb_lk116_45 _ _)
        refine a_plain (.bool false) ?_
        refine a_plain (.nilIface) ?_
        refine s_nil (r_false ?_)
        refine q_next ?_
        refine a_false ?_
        refine k_seq ?_
        refine k_region rfl ?_
        refine a_assert (.iface 45 (.string (S s))) (.tuple #[.nilIface, .bool false]) ?_ (mb_lk118_45 _ _)
        refine a_plain (.bool false) ?_
        refine a_plain (.nilIface) ?_
        refine s_nil (r_false ?_)
        refine q_next ?_
        refine a_false ?_
        refine k_seq ?_
        refine k_region rfl ?_
        refine a_op ?_
        refine s_nil (r_false ?_)
        refine q_next ?_
        refine k_seq ?_
        refine k_region rfl ?_
        refine a_op ?_
        refine s_nil (r_false ?_)
        refine q_next ?_
        refine k_ret ?_
        refine q_block_ret (q_block_ret (q_loopF_ret (q_block_ret ?_)))
        refine ⟨.inr rfl, a_ret [] (by rw [results39]) ?_ ?_ ?_⟩ <;> simp [-List.map_set, -List.map_replicate, -List.reduceReplicate, -List.map_map, -List.map_drop, -List.map_take, num, bol, txt, w8, w16, w32, w64, lst, cls, rowO, boxO, List.take_of_length_le]

theorem mb_ext38 (v : Value) (w : World) : (callFunc 38 #[.iface 45 v]).run prog w = .ok (.value (.iface 111 (.agg #[.pointer (some ⟨2, 45, none⟩)]))) w := by
  rw [run_callFunc_extern func38 (by kernel_rfl) (by kernel_rfl) (by kernel_rfl) (e := Extern.ReflectliteType.typeOf) (by kernel_rfl)]
  kernel_rfl
theorem mb_ext104 (w : World) : (callFunc 104 #[.agg #[.pointer (some ⟨2, 45, none⟩)]]).run prog w = .ok (.value (.bool true)) w := by
  rw [run_callFunc_extern func104 (by kernel_rfl) (by kernel_rfl) (by kernel_rfl) (e := Extern.ReflectliteType.method (fun t => do Extern.Rtype.noPackHeld "Comparable" t; pure (.bool (← typeInfo t).comparable))) (by kernel_rfl)]
  kernel_rfl
theorem mb_is_good (Γ : Gl) (p : Int) (s s' : List UInt8) (b : Bool) (hb : ∀ w, (binOp .eql 42 (.iface 45 (.string (S s))) (.iface 45 (.string (S s')))).run prog w = .ok (.bool b) w) : Go.Ot.Good Γ prog 18 [.t (.ifc 77 (.agg [num p, .ifc 45 (txt s)])), .t (.ifc 45 (txt s'))] [] (.t (bol b)) [] [] := by
  refine a_body F.mix func18 (by rfl) ntmps18 ?_
  refine k_seq ?_
  refine k_region rfl ?_
  refine a_op ?_
  refine s_nil (r_false ?_)
  refine q_next ?_
  refine k_seq ?_
  refine k_seq ?_
  refine k_region rfl ?_
  refine a_op ?_
  refine a_isnil false ?_
  refine a_op ?_
  first | refine a_go ?_ | refine a_no ?_ | refine a_may ?_
  refine a_isnilgo false ?_
  refine a_op ?_
  refine s_nil (r_false ?_)
  refine q_next ?_
  refine a_false ?_
  refine k_skip ?_
  refine q_next ?_
  refine k_seq ?_
  refine k_region rfl ?_
  refine a_op ?_
  refine a_ext #[.iface 45 (.string (S s'))] (.iface 111 (.agg #[.pointer (some ⟨2, 45, none⟩)])) ?_ (mb_ext38 _)
  refine a_extm (.bool true) (ty := 111) (v := .agg #[.pointer (some ⟨2, 45, none⟩)]) (v' := .agg #[.pointer (some ⟨2, 45, none⟩)]) (f := 104) ?_ (by intro w; kernel_rfl) mb_ext104
  refine a_op ?_
  refine s_nil (r_false ?_)
  refine q_next ?_
  refine k_seq ?_
  refine k_region rfl ?_
  iterate 3 refine a_op ?_
  refine a_call [] false (mb_isin_good Γ p s s' b hb) ?_
  refine a_op ?_
  refine s_nil (r_false ?_)
  refine q_next ?_
  refine k_ret ?_
  refine ⟨.inr rfl, a_ret [] (by rw [results18]) ?_ ?_ ?_⟩ <;> simp [-List.map_set, -List.map_replicate, -List.reduceReplicate, -List.map_map, -List.map_drop, -List.map_take, num, bol, txt, w8, w16, w32, w64, lst, cls, rowO, boxO, List.take_of_length_le]

theorem mb_isnil_good (Γ : Gl) (s' : List UInt8) : Go.Ot.Good Γ prog 18 [.t (.v .nilIface), .t (.ifc 45 (txt s'))] [] (.t (bol false)) [] [] := by
  refine a_body F.mix func18 (by rfl) ntmps18 ?_
  refine k_seq ?_
  refine k_region rfl ?_
  refine a_op ?_
  refine s_nil (r_false ?_)
  refine q_next ?_
  refine k_seq ?_
  refine k_seq ?_
  refine k_region rfl ?_
  refine a_op ?_
  refine a_nilnil false ?_
  refine a_op ?_
  refine a_no ?_
  refine a_no ?_
  refine a_op ?_
  refine s_nil (r_false ?_)
  refine q_next ?_
  refine a_true ?_
  refine k_seq ?_
  refine k_region rfl ?_
  refine a_op ?_
  refine a_op ?_
  refine a_plain (.bool false) ?_
  refine a_op ?_
  refine s_nil (r_false ?_)
  refine q_next ?_
  refine k_ret ?_
  refine q_seq_ret ?_
  refine ⟨.inr rfl, a_ret [] (by rw [results18]) ?_ ?_ ?_⟩ <;> simp [-List.map_set, -List.map_replicate, -List.reduceReplicate, -List.map_map, -List.map_drop, -List.map_take, num, bol, txt, w8, w16, w32, w64, lst, cls, rowO, boxO, List.take_of_length_le]

theorem mb_eq_ff (w : World) : (binOp .eql 42 (.iface 45 (.string (S [110, 111, 32, 114, 101, 99, 111, 114, 100]))) (.iface 45 (.string (S [110, 111, 32, 114, 101, 99, 111, 114, 100])))).run prog w = .ok (.bool true) w := by kernel_rfl
theorem mb_eq_fl (w : World) : (binOp .eql 42 (.iface 45 (.string (S [110, 111, 32, 114, 101, 99, 111, 114, 100]))) (.iface 45 (.string (S [97, 110, 111, 116, 104, 101, 114, 32, 114, 101, 99, 111, 114, 100, 32, 97, 104, 101, 97, 100])))).run prog w = .ok (.bool false) w := by kernel_rfl
theorem mb_eq_fr (w : World) : (binOp .eql 42 (.iface 45 (.string (S [110, 111, 32, 114, 101, 99, 111, 114, 100]))) (.iface 45 (.string (S [97, 32, 109, 101, 109, 98, 101, 114, 32, 116, 104, 97, 116, 32, 105, 115, 32, 110, 111, 110, 101, 44, 32, 111, 114, 32, 110, 111, 110, 101, 32, 116, 104, 97, 116, 32, 105, 115, 32, 111, 110, 101])))).run prog w = .ok (.bool false) w := by kernel_rfl
theorem mb_eq_lf (w : World) : (binOp .eql 42 (.iface 45 (.string (S [97, 110, 111, 116, 104, 101, 114, 32, 114, 101, 99, 111, 114, 100, 32, 97, 104, 101, 97, 100]))) (.iface 45 (.string (S [110, 111, 32, 114, 101, 99, 111, 114, 100])))).run prog w = .ok (.bool false) w := by kernel_rfl
theorem mb_eq_ll (w : World) : (binOp .eql 42 (.iface 45 (.string (S [97, 110, 111, 116, 104, 101, 114, 32, 114, 101, 99, 111, 114, 100, 32, 97, 104, 101, 97, 100]))) (.iface 45 (.string (S [97, 110, 111, 116, 104, 101, 114, 32, 114, 101, 99, 111, 114, 100, 32, 97, 104, 101, 97, 100])))).run prog w = .ok (.bool true) w := by kernel_rfl
theorem mb_eq_lr (w : World) : (binOp .eql 42 (.iface 45 (.string (S [97, 110, 111, 116, 104, 101, 114, 32, 114, 101, 99, 111, 114, 100, 32, 97, 104, 101, 97, 100]))) (.iface 45 (.string (S [97, 32, 109, 101, 109, 98, 101, 114, 32, 116, 104, 97, 116, 32, 105, 115, 32, 110, 111, 110, 101, 44, 32, 111, 114, 32, 110, 111, 110, 101, 32, 116, 104, 97, 116, 32, 105, 115, 32, 111, 110, 101])))).run prog w = .ok (.bool false) w := by kernel_rfl
theorem mb_eq_rf (w : World) : (binOp .eql 42 (.iface 45 (.string (S [97, 32, 109, 101, 109, 98, 101, 114, 32, 116, 104, 97, 116, 32, 105, 115, 32, 110, 111, 110, 101, 44, 32, 111, 114, 32, 110, 111, 110, 101, 32, 116, 104, 97, 116, 32, 105, 115, 32, 111, 110, 101]))) (.iface 45 (.string (S [110, 111, 32, 114, 101, 99, 111, 114, 100])))).run prog w = .ok (.bool false) w := by kernel_rfl
theorem mb_eq_rl (w : World) : (binOp .eql 42 (.iface 45 (.string (S [97, 32, 109, 101, 109, 98, 101, 114, 32, 116, 104, 97, 116, 32, 105, 115, 32, 110, 111, 110, 101, 44, 32, 111, 114, 32, 110, 111, 110, 101, 32, 116, 104, 97, 116, 32, 105, 115, 32, 111, 110, 101]))) (.iface 45 (.string (S [97, 110, 111, 116, 104, 101, 114, 32, 114, 101, 99, 111, 114, 100, 32, 97, 104, 101, 97, 100])))).run prog w = .ok (.bool false) w := by kernel_rfl
theorem mb_eq_rr (w : World) : (binOp .eql 42 (.iface 45 (.string (S [97, 32, 109, 101, 109, 98, 101, 114, 32, 116, 104, 97, 116, 32, 105, 115, 32, 110, 111, 110, 101, 44, 32, 111, 114, 32, 110, 111, 110, 101, 32, 116, 104, 97, 116, 32, 105, 115, 32, 111, 110, 101]))) (.iface 45 (.string (S [97, 32, 109, 101, 109, 98, 101, 114, 32, 116, 104, 97, 116, 32, 105, 115, 32, 110, 111, 110, 101, 44, 32, 111, 114, 32, 110, 111, 110, 101, 32, 116, 104, 97, 116, 32, 105, 115, 32, 111, 110, 101])))).run prog w = .ok (.bool true) w := by kernel_rfl
end Go.Proofs.Tryd
