/- Contracts of this program's functions. -/
import Derived.Test.YtnliecfmadifkaaDoorSF
import Derived.Test.YtnliecfmadifkaaDoorOtE
set_option maxHeartbeats 4000000
set_option maxRecDepth 100000
set_option linter.unusedVariables false
set_option linter.unusedSimpArgs false
namespace Go.Proofs.Tryd
open Go Go.Ot
attribute [local irreducible] wpK wpS seqK blockK loopF regK meetK OpSpec Le
open Extern Extern.Stop Go.Stop
theorem as_vo (w : World) (a : Addr) : (callFunc 31 #[.iface 73 (.pointer (some a))]).run prog w = .ok (.value (.agg #[.pointer (some ⟨1, 73, none⟩), .pointer (some ⟨w.heap.size, 0, none⟩), .int .u64 150])) (w.alloc (.cells #[.pointer (some a)] 73)) := by
  rw [run_callFunc_extern func31 (by kernel_rfl) (by kernel_rfl) (by kernel_rfl) (e := fun args => ReflectliteValue.unpack (args.getD 0 (.tuple #[]))) (by kernel_rfl)]
  kernel_rfl
theorem as_ve (w : World) (n : Int) : (callFunc 31 #[.iface 69 (.agg #[.int .i64 n])]).run prog w = .ok (.value (.agg #[.pointer (some ⟨1, 69, none⟩), .pointer (some ⟨w.heap.size, 0, none⟩), .int .u64 153])) (w.alloc (.cells #[.int .i64 n] 69)) := by
  rw [run_callFunc_extern func31 (by kernel_rfl) (by kernel_rfl) (by kernel_rfl) (e := fun args => ReflectliteValue.unpack (args.getD 0 (.tuple #[]))) (by kernel_rfl)]
  kernel_rfl
theorem as_ty (w : World) (a : Addr) : (callFunc 32 #[.agg #[.pointer (some ⟨1, 73, none⟩), .pointer (some a), .int .u64 150]]).run prog w = .ok (.value (.iface 87 (.agg #[.pointer (some ⟨1, 73, none⟩)]))) w := by
  rw [run_callFunc_extern func32 (by kernel_rfl) (by kernel_rfl) (by kernel_rfl) (e := ReflectliteValue.methodAny (ReflectliteValue.valueError "reflectlite.Value.Type" 0) (fun t _ _ _ => ReflectliteType.toType t)) (by kernel_rfl)]
  kernel_rfl
theorem as_kd73 (w : World) : (callFunc 52 #[.pointer (some ⟨1, 73, none⟩)]).run prog w = .ok (.value (.int .u8 22)) w := by
  rw [run_callFunc_extern func52 (by kernel_rfl) (by kernel_rfl) (by kernel_rfl) (e := ReflectliteType.abiMethod fun t => do pure (.int .u8 (← Rtype.kind t))) (by kernel_rfl)]
  kernel_rfl
theorem as_kd69 (w : World) : (callFunc 52 #[.pointer (some ⟨1, 69, none⟩)]).run prog w = .ok (.value (.int .u8 25)) w := by
  rw [run_callFunc_extern func52 (by kernel_rfl) (by kernel_rfl) (by kernel_rfl) (e := ReflectliteType.abiMethod fun t => do pure (.int .u8 (← Rtype.kind t))) (by kernel_rfl)]
  kernel_rfl
theorem as_el (w : World) : (callFunc 64 #[.agg #[.pointer (some ⟨1, 73, none⟩)]]).run prog w = .ok (.value (.iface 87 (.agg #[.pointer (some ⟨1, 69, none⟩)]))) w := by
  rw [run_callFunc_extern func64 (by kernel_rfl) (by kernel_rfl) (by kernel_rfl) (e := ReflectliteType.method ReflectliteType.elem) (by kernel_rfl)]
  kernel_rfl
theorem as_im (w : World) : (callFunc 65 (#[.agg #[.pointer (some ⟨1, 69, none⟩)]] ++ #[.iface 87 (.agg #[.pointer (some ⟨1, 59, none⟩)])])).run prog w = .ok (.value (.bool true)) w := by
  rw [run_callFunc_extern func65 (by kernel_rfl) (by kernel_rfl) (by kernel_rfl) (e := ReflectliteType.relation "Implements" ReflectliteType.implements_) (by kernel_rfl)]
  kernel_rfl
theorem as_as69 (w : World) : (callFunc 62 (#[.agg #[.pointer (some ⟨1, 69, none⟩)]] ++ #[.iface 87 (.agg #[.pointer (some ⟨1, 69, none⟩)])])).run prog w = .ok (.value (.bool true)) w := by
  rw [run_callFunc_extern func62 (by kernel_rfl) (by kernel_rfl) (by kernel_rfl) (e := ReflectliteType.relation "AssignableTo" ReflectliteType.assignableTo) (by kernel_rfl)]
  kernel_rfl
theorem as_to69 (v : Value) (w : World) : (callFunc 35 #[.iface 69 v]).run prog w = .ok (.value (.iface 87 (.agg #[.pointer (some ⟨1, 69, none⟩)]))) w := by
  rw [run_callFunc_extern func35 (by kernel_rfl) (by kernel_rfl) (by kernel_rfl) (e := ReflectliteType.typeOf) (by kernel_rfl)]
  kernel_rfl
theorem as_as71 (w : World) : (callFunc 62 (#[.agg #[.pointer (some ⟨1, 71, none⟩)]] ++ #[.iface 87 (.agg #[.pointer (some ⟨1, 69, none⟩)])])).run prog w = .ok (.value (.bool false)) w := by
  rw [run_callFunc_extern func62 (by kernel_rfl) (by kernel_rfl) (by kernel_rfl) (e := ReflectliteType.relation "AssignableTo" ReflectliteType.assignableTo) (by kernel_rfl)]
  kernel_rfl
theorem as_to71 (v : Value) (w : World) : (callFunc 35 #[.iface 71 v]).run prog w = .ok (.value (.iface 87 (.agg #[.pointer (some ⟨1, 71, none⟩)]))) w := by
  rw [run_callFunc_extern func35 (by kernel_rfl) (by kernel_rfl) (by kernel_rfl) (e := ReflectliteType.typeOf) (by kernel_rfl)]
  kernel_rfl
theorem as_rlm (z : Sem Value) (f : TypeId → Addr → Nat → Nat → Sem Value) (v : Value) : ReflectliteValue.method z f #[v] = (do match ← ReflectliteValue.parts v with | none => z | some (t, a, fl) => f t a fl (fl % 32)) := rfl
theorem as_parts (a : Addr) (w : World) : (ReflectliteValue.parts (.agg #[.pointer (some ⟨1, 73, none⟩), .pointer (some a), .int .u64 150])).run prog w = .ok (some (73, a, 150)) w := by kernel_rfl
theorem as_nil_ (w : World) (a q : Addr) (ha : w.cell? a = some (.pointer (some q))) : (callFunc 33 #[.agg #[.pointer (some ⟨1, 73, none⟩), .pointer (some a), .int .u64 150]]).run prog w = .ok (.value (.bool false)) w := by
  rw [run_callFunc_extern func33 (by kernel_rfl) (by kernel_rfl) (by kernel_rfl) (e := ReflectliteValue.method (ReflectliteValue.valueError "reflectlite.Value.IsNil" 0) ReflectliteValue.isNil) (by kernel_rfl)]
  simp only [Sem.run_bind, as_rlm, as_parts, Result.andThen]
  simp [ReflectliteValue.isNil, loadVar, isAgg, underlying, underlying73, ha, Result.andThen]
theorem as_elemOf (w : World) : (Rtype.elem? 73).run prog w = .ok (some 69) w := by kernel_rfl
theorem as_mk (q : Addr) (w : World) : (ReflectliteValue.mk 69 q ReflectliteValue.flagAddr).run prog w = .ok (.agg #[.pointer (some ⟨1, 69, none⟩), .pointer (some q), .int .u64 409]) w := by kernel_rfl
theorem as_elv (w : World) (a q : Addr) (ha : w.cell? a = some (.pointer (some q))) : (callFunc 36 #[.agg #[.pointer (some ⟨1, 73, none⟩), .pointer (some a), .int .u64 150]]).run prog w = .ok (.value (.agg #[.pointer (some ⟨1, 69, none⟩), .pointer (some q), .int .u64 409])) w := by
  rw [run_callFunc_extern func36 (by kernel_rfl) (by kernel_rfl) (by kernel_rfl) (e := ReflectliteValue.method (ReflectliteValue.valueError "reflectlite.Value.Elem" 0) ReflectliteValue.elem) (by kernel_rfl)]
  simp only [Sem.run_bind, as_rlm, as_parts, Result.andThen]
  simp [ReflectliteValue.elem, loadVar, isAgg, underlying, underlying73, ha, Result.andThen, as_elemOf, as_mk]
theorem as_rls (v x : Value) : ReflectliteValue.set #[v, x] = (do
    let (some (dst, a, fl), some (src, b, _)) := (← ReflectliteValue.parts v, ← ReflectliteValue.parts x)
      | unsupported (.noEntry "extern/(internal/reflectlite.Value).Set.zeroValue")
    if fl / ReflectliteValue.flagAddr % 2 == 0 then unsupported (.noEntry "extern/(internal/reflectlite.Value).Set.unaddressable")
    let val ← loadVar src b
    if ← Rtype.directlyAssignable dst src then storeVar dst a val
    else if ← Rtype.implements dst src then
      if (← Rtype.kind src) == 20 then
        match val with
        | .nilIface => unsupported (.noEntry "extern/reflectlite: a nil value of one interface type handed on as a value of another")
        | _ => storeVar dst a val
      else storeVar dst a (.iface src val)
    else panicString ("reflectlite.Set: value of type " ++ (← Rtype.spelt src) ++ " is not assignable to type " ++ (← Rtype.spelt dst))
    pure (.tuple #[])) := rfl
theorem as_pa (a : Addr) (w : World) : (ReflectliteValue.parts (.agg #[.pointer (some ⟨1, 69, none⟩), .pointer (some a), .int .u64 409])).run prog w = .ok (some (69, a, 409)) w := by kernel_rfl
theorem as_pb (a : Addr) (w : World) : (ReflectliteValue.parts (.agg #[.pointer (some ⟨1, 69, none⟩), .pointer (some a), .int .u64 153])).run prog w = .ok (some (69, a, 153)) w := by kernel_rfl
theorem as_da (w : World) : (Rtype.directlyAssignable 69 69).run prog w = .ok true w := by kernel_rfl
theorem as_lv (w : World) (b : Addr) (u : Value) (hb : w.cell? b = some u) : (loadVar 69 b).run prog w = .ok (.agg #[u]) w := by
  obtain ⟨x, h0, h⟩ := run_loadVar_cells (P := prog) (w := w) (t := 69) b [u] (by kernel_rfl) (by kernel_rfl) (by rw [F.c69]; rfl) (fun _ => F.c69) (by
    intro j z hj
    cases j with
    | zero => simp at hj; subst hj; have e : b.add 0 = b := by unfold Addr.add; split <;> simp_all
              rw [e]; exact hb
    | succ j => simp at hj)
  rw [F.g69] at h h0
  exact h
theorem as_set (w : World) (a b : Addr) (u : Value) (hb : w.cell? b = some u) (h1 : u.oneCell' = true) : (callFunc 37 #[.agg #[.pointer (some ⟨1, 69, none⟩), .pointer (some a), .int .u64 409], .agg #[.pointer (some ⟨1, 69, none⟩), .pointer (some b), .int .u64 153]]).run prog w = (do storeVar 69 a (.agg #[u]); pure (.value (.tuple #[])) : Sem Next).run prog w := by
  rw [run_callFunc_extern func37 (by kernel_rfl) (by kernel_rfl) (by kernel_rfl) (e := ReflectliteValue.set) (by kernel_rfl)]
  simp only [Sem.run_bind, as_rls, as_pa, as_pb, Result.andThen]
  simp [ReflectliteValue.flagAddr, Result.andThen, as_da, as_lv w b u hb]
  cases (storeVar 69 a (.agg #[u])).run prog w <;> rfl
def wvT : List (List UInt8) → TypeId
  | [] => 69
  | _ :: _ => 71
def wvV (v0 : Value) : List (List UInt8) → Value
  | [] => v0
  | q :: p => .agg #[.string (S q), .iface (wvT p) (wvV v0 p)]
def wv (v0 : Value) (p : List (List UInt8)) : Value := .iface (wvT p) (wvV v0 p)
theorem wv_nil (v0 : Value) : wv v0 [] = .iface 69 v0 := rfl
theorem wv_cons (v0 : Value) (q : (List UInt8)) (p : List (List UInt8)) : wv v0 (q :: p) = .iface 71 (.agg #[.string (S q), wv v0 p]) := rfl
theorem wv_one (v0 : Value) (p : List (List UInt8)) : (wv v0 p).oneCell' = true := rfl
attribute [push_cast] wv_one
def EG (Γ : Gl) : Prop := (∀ w, Γ.G w → w.cell? ⟨0, 0, none⟩ = some (.iface 87 (.agg #[.pointer (some ⟨1, 59, none⟩)]))) ∧ 0 < Γ.gs
theorem as_lk (v : Value) (xT : TypeId) (w : World) : (Instr.typeAssert (.iface 71 v) xT 92 true).run prog w = .ok (.tuple #[.nilIface, .bool false]) w := run_typeAssert_lacksB underlying92 (by kernel_rfl) (by kernel_rfl) v xT w
theorem as_hs (v : Value) (xT : TypeId) (w : World) : (Instr.typeAssert (.iface 71 v) xT 95 true).run prog w = .ok (.tuple #[.iface 71 v, .bool true]) w := run_typeAssert_hasB underlying95 (by kernel_rfl) v xT w
theorem unwrap_good (Γ : Gl) (q : (List UInt8)) (v : Value) (h1 : v.oneCell' = true) : Go.Ot.Good Γ prog 57 [.agg [.t (.v (.string (S q))), .t (.v v)]] [] (.t (.v v)) [] [] := by
  refine a_body F.mix func57 (by rfl) ntmps57 ?_
  refine k_seq ?_
  refine k_region rfl ?_
  refine a_op (hs := by (simp only [push_cast, h1] <;> rfl)) ?_
  refine a_op ?_
  refine s_nil (r_false ?_)
  refine q_next ?_
  refine k_seq ?_
  refine k_region rfl ?_
  iterate 3 refine a_op ?_
  refine s_nil (r_false ?_)
  refine q_next ?_
  refine k_ret ?_
  refine ⟨.inr rfl, a_ret [] (by rw [results57]) ?_ ?_ ?_⟩ <;> simp [-List.map_set, -List.map_replicate, -List.reduceReplicate, -List.map_map, -List.map_drop, -List.map_take, num, bol, txt, w8, w16, w32, w64, lst, cls, rowO, boxO, List.take_of_length_le, h1]

theorem asin_good (Γ : Gl) (p : List (List UInt8)) (n : Int) (d0 : T) : Go.Ot.Good Γ prog 34 [.t (.v (wv (.agg #[.int .i64 n]) p)), .ifc 73 (.ptr (.p 0) 0), .agg [.t (.v (.pointer (some ⟨1, 73, none⟩))), .ptr (.p 1) 0, .t (.v (.int .u64 150))], .t (.v (.iface 87 (.agg #[.pointer (some ⟨1, 69, none⟩)])))] [boxO 69 [.t d0], ⟨[.ptr (.p 0) 0], 73, false, true⟩] (.t (bol true)) [some (boxO 69 [.t (.v (.int .i64 n))]), some (⟨[.ptr (.p 0) 0], 73, false, true⟩)] [] := by
  refine a_body F.mix func34 (by rfl) ntmps34 ?_
  refine k_seq ?_
  refine k_region rfl ?_
  refine a_op ?_
  refine a_op ?_
  refine s_nil (r_false ?_)
  refine q_next ?_
  refine k_block ?_
  refine k_loopF (fun sl L (p : List (List UInt8)) => ⟨setAll (setBad sl [2, 8, 9, 10, 11, 12, 14, 15, 16, 17, 18, 19, 20, 21, 22, 23, 24, 25, 26, 27, 28, 29, 30, 31, 32, 33, 34, 35, 36, 37, 38, 39, 40, 41, 42, 43, 44, 45, 46, 47, 48, 49, 50, 51, 52, 53, 54, 55, 56, 57, 58, 59, 60, 61]) [(0, .t (.v (wv (.agg #[.int .i64 n]) p)))], Go.Ot.look (L)⟩) (fun _ => True) (fun p => p.length) (p) (a_le ?_) ?_ ?_
  · refine le_same ?_ ?_ ?_ <;> simp [-List.map_set, -List.map_replicate, -List.reduceReplicate, -List.map_map, -List.map_drop, -List.map_take, num, bol, txt, w8, w16, w32, w64, lst, cls, rowO, boxO, List.take_of_length_le, wv]
  · trivial
  · intro p _
    rcases p with _ | ⟨q, p⟩
    · refine a_st ?_
      refine k_block ?_
      refine k_seq ?_
      refine k_seq ?_
      refine k_region rfl ?_
      refine a_op ?_
      refine a_ext #[(.iface 69 (.agg #[.int .i64 n]))] (.iface 87 (.agg #[.pointer (some ⟨1, 69, none⟩)])) ?_ (as_to69 _)
      refine a_op ?_
      refine a_by (spec_extma #[.iface 87 (.agg #[.pointer (some ⟨1, 69, none⟩)])] (ty := 87) (v := (.agg #[.pointer (some ⟨1, 69, none⟩)])) (v' := (.agg #[.pointer (some ⟨1, 69, none⟩)])) (f := 62) (res := .bool true) rfl rfl (by kernel_rfl) (by kernel_rfl) (by intro w; kernel_rfl) as_as69) ?_
      refine s_nil (r_false ?_)
      refine q_next ?_
      refine a_true ?_
      refine k_seq ?_
      refine k_region rfl ?_
      refine a_op ?_
      refine a_by (spec_ext1m (x := .tmp 20) rfl (r := .agg [.t (.v (.pointer (some ⟨1, 69, none⟩))), .ptr (.p 0) 0, .t (.v (.int .u64 409))]) (m := .p 1) (d0 := .ptr (.p 0) 0) (ob := ⟨[.ptr (.p 0) 0], 73, false, true⟩) rfl rfl (val_elem rfl rfl as_elv)) ?_
      refine a_op ?_
      refine a_by (spec_valueOf (x := .tmp 22) rfl (ty := 69) (c := .t (.v (.int .i64 n))) (H := .pointer (some ⟨1, 69, none⟩)) (F := .int .u64 153) 2 3 0 rfl rfl rfl (val_of_v rfl fun w => as_ve w n)) ?_
      refine a_by (spec_reflectSet rfl (fun u => .agg #[u]) (m := .p 0) (off := 0) (m2 := .r 2 3 0) (c := .t (.v (.int .i64 n))) (ob := boxO 69 [.t d0]) (ob2 := ⟨[.t (.v (.int .i64 n))], 69, false, true⟩) (t := 69) rfl rfl rfl rfl rfl rfl (by simp [boxO]) (by kernel_rfl) (by kernel_rfl) (by intro u h; rfl) (fun w a b u h h1 => as_set w a b u h h1)) ?_
      refine s_nil (r_false ?_)
      refine q_next ?_
      refine k_seq ?_
      refine k_region rfl ?_
      refine a_op ?_
      refine s_nil (r_false ?_)
      refine q_next ?_
      refine k_ret ?_
      refine q_seq_ret (q_block_ret (q_loopF_ret (q_block_ret ?_)))
      refine ⟨.inr rfl, a_ret [(.p 0, .p 0), (.p 1, .p 1)] (by rw [results34]) ?_ ?_ ?_⟩ <;> simp [-List.map_set, -List.map_replicate, -List.reduceReplicate, -List.map_map, -List.map_drop, -List.map_take, num, bol, txt, w8, w16, w32, w64, lst, cls, rowO, boxO, List.take_of_length_le]
    · refine a_st ?_
      refine k_block ?_
      refine k_seq ?_
      refine k_seq ?_
      refine k_region rfl ?_
      refine a_op ?_
      refine a_ext #[(.iface 71 (.agg #[.string (S q), wv (.agg #[.int .i64 n]) p]))] (.iface 87 (.agg #[.pointer (some ⟨1, 71, none⟩)])) ?_ (as_to71 _)
      refine a_op ?_
      refine a_by (spec_extma #[.iface 87 (.agg #[.pointer (some ⟨1, 69, none⟩)])] (ty := 87) (v := (.agg #[.pointer (some ⟨1, 71, none⟩)])) (v' := (.agg #[.pointer (some ⟨1, 71, none⟩)])) (f := 62) (res := .bool false) rfl rfl (by kernel_rfl) (by kernel_rfl) (by intro w; kernel_rfl) as_as71) ?_
      refine s_nil (r_false ?_)
      refine q_next ?_
      refine a_false ?_
      refine k_skip ?_
      refine q_next ?_
      refine k_seq ?_
      refine k_seq ?_
      refine k_region rfl ?_
      refine a_op ?_
      refine a_assert (.iface 71 (.agg #[.string (S q), wv (.agg #[.int .i64 n]) p])) (.tuple #[.nilIface, .bool false]) ?_ (as_lk _ _)
      refine a_op ?_
      refine a_plain (.nilIface) ?_
      refine a_plain (.bool false) ?_
      refine a_op ?_
      refine a_op ?_
      refine s_nil (r_false ?_)
      refine q_next ?_
      refine k_seq ?_
      refine k_region rfl ?_
      refine a_op ?_
      refine a_op ?_
      refine a_no ?_
      refine a_no ?_
      refine a_no ?_
      refine a_op ?_
      refine s_nil (r_false ?_)
      refine q_next ?_
      refine a_false ?_
      refine k_skip ?_
      refine q_next ?_
      refine k_seq ?_
      refine k_region rfl ?_
      refine a_op ?_
      refine s_nil (r_false ?_)
      refine q_next ?_
      refine k_block ?_
      refine k_seq ?_
      refine k_region rfl ?_
      refine a_assert (.iface 71 (.agg #[.string (S q), wv (.agg #[.int .i64 n]) p])) (.tuple #[.iface 71 (.agg #[.string (S q), wv (.agg #[.int .i64 n]) p]), .bool true]) ?_ (as_hs _ _)
      refine a_plain (.bool true) ?_
      refine a_plain (.iface 71 (.agg #[.string (S q), wv (.agg #[.int .i64 n]) p])) ?_
      refine s_nil (r_false ?_)
      refine q_next ?_
      refine a_true ?_
      refine k_seq ?_
      refine k_region rfl ?_
      refine a_op ?_
      refine s_nil (r_false ?_)
      refine q_next ?_
      refine k_seq ?_
      refine k_region rfl ?_
      refine a_op ?_
      refine a_invoke [] false (unwrap_good Γ q (wv (.agg #[.int .i64 n]) p) rfl) ?_ (ty := 71) (v := .agg #[.string (S q), wv (.agg #[.int .i64 n]) p]) (v' := .agg #[.string (S q), wv (.agg #[.int .i64 n]) p]) (f := 57) rfl (by intro w; kernel_rfl)
      refine a_op ?_
      refine s_nil (r_false ?_)
      refine q_next ?_
      refine k_seq ?_
      refine k_region rfl ?_
      refine a_op ?_
      refine a_plain (.bool false) ?_
      refine s_nil (r_false ?_)
      refine q_next ?_
      refine a_false ?_
      refine k_skip ?_
      refine q_block (q_block (q_loopF (p) (a_le ?_) ?_ ?_))
      · refine le_same ?_ ?_ ?_ <;> simp [-List.map_set, -List.map_replicate, -List.reduceReplicate, -List.map_map, -List.map_drop, -List.map_take, num, bol, txt, w8, w16, w32, w64, lst, cls, rowO, boxO, List.take_of_length_le, wv]
      · trivial
      · simp

theorem As_good (Γ : Gl) (hE : EG Γ) (p : List (List UInt8)) (n : Int) (d0 : T) : Go.Ot.Good Γ prog 30 [.t (.v (wv (.agg #[.int .i64 n]) p)), .ifc 73 (.ptr (.p 0) 0)] [boxO 69 [.t d0]] (.t (bol true)) [some (boxO 69 [.t (.v (.int .i64 n))])] [] := by
  refine a_body F.mix func30 (by rfl) ntmps30 ?_
  refine k_seq ?_
  refine k_region rfl ?_
  refine a_op ?_
  refine s_nil (r_false ?_)
  refine q_next ?_
  refine k_seq ?_
  refine k_seq ?_
  refine k_region rfl ?_
  refine a_op ?_
  refine a_plain (.bool false) ?_
  refine s_nil (r_false ?_)
  refine q_next ?_
  refine a_false ?_
  refine k_skip ?_
  refine q_next ?_
  refine k_seq ?_
  refine k_seq ?_
  refine k_region rfl ?_
  refine a_op ?_
  refine a_isnil false ?_
  refine s_nil (r_false ?_)
  refine q_next ?_
  refine a_false ?_
  refine k_skip ?_
  refine q_next ?_
  refine k_seq ?_
  refine k_region rfl ?_
  refine a_op ?_
  refine a_by (spec_valueOf (x := .tmp 13) rfl (ty := 73) (c := .ptr (.p 0) 0) (H := .pointer (some ⟨1, 73, none⟩)) (F := .int .u64 150) 5 1 0 rfl rfl rfl (val_of_ptr as_vo)) ?_
  refine a_op ?_
  refine a_op ?_
  refine s_nil (r_false ?_)
  refine q_next ?_
  refine k_seq ?_
  refine k_region rfl ?_
  refine a_op ?_
  refine a_by (spec_ext1 (x := .tmp 15) rfl (val_type as_ty)) ?_
  refine a_op ?_
  refine s_nil (r_false ?_)
  refine q_next ?_
  refine k_seq ?_
  refine k_seq ?_
  refine k_region rfl ?_
  refine a_op ?_
  refine a_extm (.int .u8 22) (ty := 87) (v := (.agg #[.pointer (some ⟨1, 73, none⟩)])) (v' := .pointer (some ⟨1, 73, none⟩)) (f := 52) ?_ (by intro w; kernel_rfl) as_kd73
  refine a_op ?_
  refine a_op ?_
  refine a_go ?_
  refine a_bygo (spec_ext1m (x := .tmp 21) rfl (m := .r 5 1 0) (d0 := .ptr (.p 0) 0) (ob := ⟨[.ptr (.p 0) 0], 73, false, true⟩) rfl rfl (val_isNil as_nil_)) ?_
  refine a_op ?_
  refine s_nil (r_false ?_)
  refine q_next ?_
  refine a_false ?_
  refine k_skip ?_
  refine q_next ?_
  refine k_seq ?_
  refine k_region rfl ?_
  refine a_op ?_
  refine a_extm (.iface 87 (.agg #[.pointer (some ⟨1, 69, none⟩)])) (ty := 87) (v := (.agg #[.pointer (some ⟨1, 73, none⟩)])) (v' := (.agg #[.pointer (some ⟨1, 73, none⟩)])) (f := 64) ?_ (by intro w; kernel_rfl) as_el
  refine a_op ?_
  refine s_nil (r_false ?_)
  refine q_next ?_
  refine k_seq ?_
  refine k_seq ?_
  refine k_region rfl ?_
  refine a_op ?_
  refine a_extm (.int .u8 25) (ty := 87) (v := (.agg #[.pointer (some ⟨1, 69, none⟩)])) (v' := .pointer (some ⟨1, 69, none⟩)) (f := 52) ?_ (by intro w; kernel_rfl) as_kd69
  refine a_op ?_
  refine a_op ?_
  refine a_go ?_
  refine a_bygo (spec_loadGlobal 80 0 rfl hE.1 hE.2 (by kernel_rfl) (by kernel_rfl) (by kernel_rfl) (by kernel_rfl)) ?_
  refine a_bygo (spec_extma #[.iface 87 (.agg #[.pointer (some ⟨1, 59, none⟩)])] (ty := 87) (v := (.agg #[.pointer (some ⟨1, 69, none⟩)])) (v' := (.agg #[.pointer (some ⟨1, 69, none⟩)])) (f := 65) (res := .bool true) rfl rfl (by kernel_rfl) (by kernel_rfl) (by intro w; kernel_rfl) as_im) ?_
  refine a_go ?_
  refine a_op ?_
  refine s_nil (r_false ?_)
  refine q_next ?_
  refine a_false ?_
  refine k_skip ?_
  refine q_next ?_
  refine k_seq ?_
  refine k_region rfl ?_
  iterate 4 refine a_op ?_
  refine a_callp [.p 0, .r 5 1 0] [] [] false (asin_good Γ p n d0) ?_
  refine a_op ?_
  refine s_nil (r_false ?_)
  refine q_next ?_
  refine k_ret ?_
  refine ⟨.inr rfl, a_ret [(.p 0, .p 0)] (by rw [results30]) ?_ ?_ ?_⟩ <;> simp [-List.map_set, -List.map_replicate, -List.reduceReplicate, -List.map_map, -List.map_drop, -List.map_take, num, bol, txt, w8, w16, w32, w64, lst, cls, rowO, boxO, List.take_of_length_le]

theorem Asnil_good (Γ : Gl) (d0 : T) : Go.Ot.Good Γ prog 30 [.t (.v .nilIface), .ifc 73 (.ptr (.p 0) 0)] [boxO 69 [.t d0]] (.t (bol false)) [some (boxO 69 [.t d0])] [] := by
  refine a_body F.mix func30 (by rfl) ntmps30 ?_
  refine k_seq ?_
  refine k_region rfl ?_
  refine a_op ?_
  refine s_nil (r_false ?_)
  refine q_next ?_
  refine k_seq ?_
  refine k_seq ?_
  refine k_region rfl ?_
  refine a_op ?_
  refine a_nilnil false ?_
  refine s_nil (r_false ?_)
  refine q_next ?_
  refine a_true ?_
  refine k_seq ?_
  refine k_region rfl ?_
  refine a_op ?_
  refine s_nil (r_false ?_)
  refine q_next ?_
  refine k_ret ?_
  refine q_seq_ret ?_
  refine ⟨.inr rfl, a_ret [(.p 0, .p 0)] (by rw [results30]) ?_ ?_ ?_⟩ <;> simp [-List.map_set, -List.map_replicate, -List.reduceReplicate, -List.map_map, -List.map_drop, -List.map_take, num, bol, txt, w8, w16, w32, w64, lst, cls, rowO, boxO, List.take_of_length_le]

end Go.Proofs.Tryd
