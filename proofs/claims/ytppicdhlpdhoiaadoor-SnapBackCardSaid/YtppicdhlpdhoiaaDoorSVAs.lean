/- Contracts of this program's functions. -/
import Derived.Test.YtppicdhlpdhoiaaDoorSF
import Derived.Test.YtppicdhlpdhoiaaDoorOtE
set_option maxHeartbeats 4000000
set_option maxRecDepth 100000
set_option linter.unusedVariables false
set_option linter.unusedSimpArgs false
namespace Go.Proofs.Tryd.Sn
open Go Go.Ot
attribute [local irreducible] wpK wpS seqK blockK loopF regK meetK OpSpec Le
open Extern Extern.Stop Go.Stop
theorem as_vo (w : World) (a : Addr) : (callFunc 46 #[.iface 70 (.pointer (some a))]).run prog w = .ok (.value (.agg #[.pointer (some ⟨1, 70, none⟩), .pointer (some ⟨w.heap.size, 0, none⟩), .int .u64 150])) (w.alloc (.cells #[.pointer (some a)] 70)) := by
  rw [run_callFunc_extern func46 (by kernel_rfl) (by kernel_rfl) (by kernel_rfl) (e := fun args => ReflectliteValue.unpack (args.getD 0 (.tuple #[]))) (by kernel_rfl)]
  kernel_rfl
theorem as_ve (w : World) (s : List UInt8) : (callFunc 46 #[.iface 68 (.string (S s))]).run prog w = .ok (.value (.agg #[.pointer (some ⟨1, 68, none⟩), .pointer (some ⟨w.heap.size, 0, none⟩), .int .u64 152])) (w.alloc (.cells #[.string (S s)] 68)) := by
  rw [run_callFunc_extern func46 (by kernel_rfl) (by kernel_rfl) (by kernel_rfl) (e := fun args => ReflectliteValue.unpack (args.getD 0 (.tuple #[]))) (by kernel_rfl)]
  kernel_rfl
theorem as_ty (w : World) (a : Addr) : (callFunc 47 #[.agg #[.pointer (some ⟨1, 70, none⟩), .pointer (some a), .int .u64 150]]).run prog w = .ok (.value (.iface 128 (.agg #[.pointer (some ⟨1, 70, none⟩)]))) w := by
  rw [run_callFunc_extern func47 (by kernel_rfl) (by kernel_rfl) (by kernel_rfl) (e := ReflectliteValue.methodAny (ReflectliteValue.valueError "reflectlite.Value.Type" 0) (fun t _ _ _ => ReflectliteType.toType t)) (by kernel_rfl)]
  kernel_rfl
theorem as_kd70 (w : World) : (callFunc 84 #[.pointer (some ⟨1, 70, none⟩)]).run prog w = .ok (.value (.int .u8 22)) w := by
  rw [run_callFunc_extern func84 (by kernel_rfl) (by kernel_rfl) (by kernel_rfl) (e := ReflectliteType.abiMethod fun t => do pure (.int .u8 (← Rtype.kind t))) (by kernel_rfl)]
  kernel_rfl
theorem as_kd68 (w : World) : (callFunc 84 #[.pointer (some ⟨1, 68, none⟩)]).run prog w = .ok (.value (.int .u8 24)) w := by
  rw [run_callFunc_extern func84 (by kernel_rfl) (by kernel_rfl) (by kernel_rfl) (e := ReflectliteType.abiMethod fun t => do pure (.int .u8 (← Rtype.kind t))) (by kernel_rfl)]
  kernel_rfl
theorem as_el (w : World) : (callFunc 99 #[.agg #[.pointer (some ⟨1, 70, none⟩)]]).run prog w = .ok (.value (.iface 128 (.agg #[.pointer (some ⟨1, 68, none⟩)]))) w := by
  rw [run_callFunc_extern func99 (by kernel_rfl) (by kernel_rfl) (by kernel_rfl) (e := ReflectliteType.method ReflectliteType.elem) (by kernel_rfl)]
  kernel_rfl
theorem as_im (w : World) : (callFunc 100 (#[.agg #[.pointer (some ⟨1, 68, none⟩)]] ++ #[.iface 128 (.agg #[.pointer (some ⟨1, 65, none⟩)])])).run prog w = .ok (.value (.bool true)) w := by
  rw [run_callFunc_extern func100 (by kernel_rfl) (by kernel_rfl) (by kernel_rfl) (e := ReflectliteType.relation "Implements" ReflectliteType.implements_) (by kernel_rfl)]
  kernel_rfl
theorem as_as68 (w : World) : (callFunc 97 (#[.agg #[.pointer (some ⟨1, 68, none⟩)]] ++ #[.iface 128 (.agg #[.pointer (some ⟨1, 68, none⟩)])])).run prog w = .ok (.value (.bool true)) w := by
  rw [run_callFunc_extern func97 (by kernel_rfl) (by kernel_rfl) (by kernel_rfl) (e := ReflectliteType.relation "AssignableTo" ReflectliteType.assignableTo) (by kernel_rfl)]
  kernel_rfl
theorem as_to68 (v : Value) (w : World) : (callFunc 61 #[.iface 68 v]).run prog w = .ok (.value (.iface 128 (.agg #[.pointer (some ⟨1, 68, none⟩)]))) w := by
  rw [run_callFunc_extern func61 (by kernel_rfl) (by kernel_rfl) (by kernel_rfl) (e := ReflectliteType.typeOf) (by kernel_rfl)]
  kernel_rfl
theorem as_as95 (w : World) : (callFunc 97 (#[.agg #[.pointer (some ⟨1, 95, none⟩)]] ++ #[.iface 128 (.agg #[.pointer (some ⟨1, 68, none⟩)])])).run prog w = .ok (.value (.bool false)) w := by
  rw [run_callFunc_extern func97 (by kernel_rfl) (by kernel_rfl) (by kernel_rfl) (e := ReflectliteType.relation "AssignableTo" ReflectliteType.assignableTo) (by kernel_rfl)]
  kernel_rfl
theorem as_to95 (v : Value) (w : World) : (callFunc 61 #[.iface 95 v]).run prog w = .ok (.value (.iface 128 (.agg #[.pointer (some ⟨1, 95, none⟩)]))) w := by
  rw [run_callFunc_extern func61 (by kernel_rfl) (by kernel_rfl) (by kernel_rfl) (e := ReflectliteType.typeOf) (by kernel_rfl)]
  kernel_rfl
theorem as_rlm (z : Sem Value) (f : TypeId → Addr → Nat → Nat → Sem Value) (v : Value) : ReflectliteValue.method z f #[v] = (do match ← ReflectliteValue.parts v with | none => z | some (t, a, fl) => f t a fl (fl % 32)) := rfl
theorem as_parts (a : Addr) (w : World) : (ReflectliteValue.parts (.agg #[.pointer (some ⟨1, 70, none⟩), .pointer (some a), .int .u64 150])).run prog w = .ok (some (70, a, 150)) w := by kernel_rfl
theorem as_nil_ (w : World) (a q : Addr) (ha : w.cell? a = some (.pointer (some q))) : (callFunc 48 #[.agg #[.pointer (some ⟨1, 70, none⟩), .pointer (some a), .int .u64 150]]).run prog w = .ok (.value (.bool false)) w := by
  rw [run_callFunc_extern func48 (by kernel_rfl) (by kernel_rfl) (by kernel_rfl) (e := ReflectliteValue.method (ReflectliteValue.valueError "reflectlite.Value.IsNil" 0) ReflectliteValue.isNil) (by kernel_rfl)]
  simp only [Sem.run_bind, as_rlm, as_parts, Result.andThen]
  simp [ReflectliteValue.isNil, loadVar, isAgg, underlying, underlying70, ha, Result.andThen]
theorem as_elemOf (w : World) : (Rtype.elem? 70).run prog w = .ok (some 68) w := by kernel_rfl
theorem as_mk (q : Addr) (w : World) : (ReflectliteValue.mk 68 q ReflectliteValue.flagAddr).run prog w = .ok (.agg #[.pointer (some ⟨1, 68, none⟩), .pointer (some q), .int .u64 408]) w := by kernel_rfl
theorem as_elv (w : World) (a q : Addr) (ha : w.cell? a = some (.pointer (some q))) : (callFunc 62 #[.agg #[.pointer (some ⟨1, 70, none⟩), .pointer (some a), .int .u64 150]]).run prog w = .ok (.value (.agg #[.pointer (some ⟨1, 68, none⟩), .pointer (some q), .int .u64 408])) w := by
  rw [run_callFunc_extern func62 (by kernel_rfl) (by kernel_rfl) (by kernel_rfl) (e := ReflectliteValue.method (ReflectliteValue.valueError "reflectlite.Value.Elem" 0) ReflectliteValue.elem) (by kernel_rfl)]
  simp only [Sem.run_bind, as_rlm, as_parts, Result.andThen]
  simp [ReflectliteValue.elem, loadVar, isAgg, underlying, underlying70, ha, Result.andThen, as_elemOf, as_mk]
theorem as_rls (v x : Value) : ReflectliteValue.set #[v, x] = (do
    let (some (dst, a, fl), some (src, b, _)) := (← ReflectliteValue.parts v, ← ReflectliteValue.parts x)
      | unsupported (.noEntry "extern/(internal/reflectlite.Value).Set.zeroValue")
    if fl / ReflectliteValue.flagAddr % 2 == 0 then unsupported (.noEntry "extern/(internal/reflectlite.Value).Set.unaddressable")
    let val ← loadVar src b
    if ← Rtype.directlyAssignable dst src then storeVar dst a val
    else if ← Rtype.implements dst src then
      if (← Rtype.kind src) == 20 then
        match val with
        | .nilIface => unsupported (.noEntry "extern/reflectlite: a nil value of one interface type handed on as a value of another")
        | _ => storeVar dst a val
      else storeVar dst a (.iface src val)
    else panicString ("reflectlite.Set: value of type " ++ (← Rtype.spelt src) ++ " is not assignable to type " ++ (← Rtype.spelt dst))
    pure (.tuple #[])) := rfl
theorem as_pa (a : Addr) (w : World) : (ReflectliteValue.parts (.agg #[.pointer (some ⟨1, 68, none⟩), .pointer (some a), .int .u64 408])).run prog w = .ok (some (68, a, 408)) w := by kernel_rfl
theorem as_pb (a : Addr) (w : World) : (ReflectliteValue.parts (.agg #[.pointer (some ⟨1, 68, none⟩), .pointer (some a), .int .u64 152])).run prog w = .ok (some (68, a, 152)) w := by kernel_rfl
theorem as_da (w : World) : (Rtype.directlyAssignable 68 68).run prog w = .ok true w := by kernel_rfl
theorem as_lv (w : World) (b : Addr) (u : Value) (hb : w.cell? b = some u) : (loadVar 68 b).run prog w = .ok (u) w := by
  obtain ⟨x, h0, h⟩ := run_loadVar_cells (P := prog) (w := w) (t := 68) b [u] (by kernel_rfl) (by kernel_rfl) (by rw [F.c68]; rfl) (fun _ => F.c68) (by
    intro j z hj
    cases j with
    | zero => simp at hj; subst hj; have e : b.add 0 = b := by unfold Addr.add; split <;> simp_all
              rw [e]; exact hb
    | succ j => simp at hj)
  rw [F.g68] at h h0
  have := h0 rfl
  simp at this
  subst this
  exact h
theorem as_set (w : World) (a b : Addr) (u : Value) (hb : w.cell? b = some u) (h1 : u.oneCell' = true) : (callFunc 63 #[.agg #[.pointer (some ⟨1, 68, none⟩), .pointer (some a), .int .u64 408], .agg #[.pointer (some ⟨1, 68, none⟩), .pointer (some b), .int .u64 152]]).run prog w = (do storeVar 68 a (u); pure (.value (.tuple #[])) : Sem Next).run prog w := by
  rw [run_callFunc_extern func63 (by kernel_rfl) (by kernel_rfl) (by kernel_rfl) (e := ReflectliteValue.set) (by kernel_rfl)]
  simp only [Sem.run_bind, as_rls, as_pa, as_pb, Result.andThen]
  simp [ReflectliteValue.flagAddr, Result.andThen, as_da, as_lv w b u hb]
  cases (storeVar 68 a (u)).run prog w <;> rfl
def wvT : List (List UInt8) → TypeId
  | [] => 68
  | _ :: _ => 95
def wvV (v0 : Value) : List (List UInt8) → Value
  | [] => v0
  | q :: p => .agg #[.string (S q), .iface (wvT p) (wvV v0 p)]
def wv (v0 : Value) (p : List (List UInt8)) : Value := .iface (wvT p) (wvV v0 p)
theorem wv_nil (v0 : Value) : wv v0 [] = .iface 68 v0 := rfl
theorem wv_cons (v0 : Value) (q : (List UInt8)) (p : List (List UInt8)) : wv v0 (q :: p) = .iface 95 (.agg #[.string (S q), wv v0 p]) := rfl
theorem wv_one (v0 : Value) (p : List (List UInt8)) : (wv v0 p).oneCell' = true := rfl
attribute [push_cast] wv_one
def EG (Γ : Gl) : Prop := (∀ w, Γ.G w → w.cell? ⟨0, 0, none⟩ = some (.iface 128 (.agg #[.pointer (some ⟨1, 65, none⟩)]))) ∧ 0 < Γ.gs
theorem as_lk (v : Value) (xT : TypeId) (w : World) : (Instr.typeAssert (.iface 95 v) xT 133 true).run prog w = .ok (.tuple #[.nilIface, .bool false]) w := run_typeAssert_lacksB underlying133 (by kernel_rfl) (by kernel_rfl) v xT w
theorem as_hs (v : Value) (xT : TypeId) (w : World) : (Instr.typeAssert (.iface 95 v) xT 136 true).run prog w = .ok (.tuple #[.iface 95 v, .bool true]) w := run_typeAssert_hasB underlying136 (by kernel_rfl) v xT w
theorem unwrap_good (Γ : Gl) (q : (List UInt8)) (v : Value) (h1 : v.oneCell' = true) : Go.Ot.Good Γ prog 90 [.agg [.t (.v (.string (S q))), .t (.v v)]] [] (.t (.v v)) [] [] := by
  refine a_body F.mix func90 (by rfl) ntmps90 ?_
  refine k_seq ?_
  refine k_region rfl ?_
  refine a_op (hs := by (simp only [push_cast, h1] <;> rfl)) ?_
  refine a_op ?_
  refine s_nil (r_false ?_)
  refine q_next ?_
  refine k_seq ?_
  refine k_region rfl ?_
  iterate 3 refine a_op ?_
  refine s_nil (r_false ?_)
  refine q_next ?_
  refine k_ret ?_
  refine ⟨.inr rfl, a_ret [] (by rw [results90]) ?_ ?_ ?_⟩ <;> simp [-List.map_set, -List.map_replicate, -List.reduceReplicate, -List.map_map, -List.map_drop, -List.map_take, num, bol, txt, w8, w16, w32, w64, lst, cls, rowO, boxO, List.take_of_length_le, h1]

theorem asin_good (Γ : Gl) (p : List (List UInt8)) (s : List UInt8) (d0 : T) : Go.Ot.Good Γ prog 49 [.t (.v (wv (.string (S s)) p)), .ifc 70 (.ptr (.p 0) 0), .agg [.t (.v (.pointer (some ⟨1, 70, none⟩))), .ptr (.p 1) 0, .t (.v (.int .u64 150))], .t (.v (.iface 128 (.agg #[.pointer (some ⟨1, 68, none⟩)])))] [boxO 68 [.t d0], ⟨[.ptr (.p 0) 0], 70, false, true⟩] (.t (bol true)) [some (boxO 68 [.t (.v (.string (S s)))]), some (⟨[.ptr (.p 0) 0], 70, false, true⟩)] [] := by
  refine a_body F.mix func49 (by rfl) ntmps49 ?_
  refine k_seq ?_
  refine k_region rfl ?_
  refine a_op ?_
  refine a_op ?_
  refine s_nil (r_false ?_)
  refine q_next ?_
  refine k_block ?_
  refine k_loopF (fun sl L (p : List (List UInt8)) => ⟨setAll (setBad sl [2, 8, 9, 10, 11, 12, 14, 15, 16, 17, 18, 19, 20, 21, 22, 23, 24, 25, 26, 27, 28, 29, 30, 31, 32, 33, 34, 35, 36, 37, 38, 39, 40, 41, 42, 43, 44, 45, 46, 47, 48, 49, 50, 51, 52, 53, 54, 55, 56, 57, 58, 59, 60, 61]) [(0, .t (.v (wv (.string (S s)) p)))], Go.Ot.look (L)⟩) (fun _ => True) (fun p => p.length) (p) (a_le ?_) ?_ ?_
  · refine le_same ?_ ?_ ?_ <;> simp [-List.map_set, -List.map_replicate, -List.reduceReplicate, -List.map_map, -List.map_drop, -List.map_take, num, bol, txt, w8, w16, w32, w64, lst, cls, rowO, boxO, List.take_of_length_le, wv]
  · trivial
  · intro p _
    rcases p with _ | ⟨q, p⟩
    · refine a_st ?_
      refine k_block ?_
      refine k_seq ?_
      refine k_seq ?_
      refine k_region rfl ?_
      refine a_op ?_
      refine a_ext #[(.iface 68 (.string (S s)))] (.iface 128 (.agg #[.pointer (some ⟨1, 68, none⟩)])) ?_ (as_to68 _)
      refine a_op ?_
      refine a_by (spec_extma #[.iface 128 (.agg #[.pointer (some ⟨1, 68, none⟩)])] (ty := 128) (v := (.agg #[.pointer (some ⟨1, 68, none⟩)])) (v' := (.agg #[.pointer (some ⟨1, 68, none⟩)])) (f := 97) (res := .bool true) rfl rfl (by kernel_rfl) (by kernel_rfl) (by intro w; kernel_rfl) as_as68) ?_
      refine s_nil (r_false ?_)
      refine q_next ?_
      refine a_true ?_
      refine k_seq ?_
      refine k_region rfl ?_
      refine a_op ?_
      refine a_by (spec_ext1m (x := .tmp 20) rfl (r := .agg [.t (.v (.pointer (some ⟨1, 68, none⟩))), .ptr (.p 0) 0, .t (.v (.int .u64 408))]) (m := .p 1) (d0 := .ptr (.p 0) 0) (ob := ⟨[.ptr (.p 0) 0], 70, false, true⟩) rfl rfl (val_elem rfl rfl as_elv)) ?_
      refine a_op ?_
      refine a_by (spec_valueOf (x := .tmp 22) rfl (ty := 68) (c := .t (.v (.string (S s)))) (H := .pointer (some ⟨1, 68, none⟩)) (F := .int .u64 152) 2 3 0 rfl rfl rfl (val_of_v rfl fun w => as_ve w s)) ?_
      refine a_by (spec_reflectSet rfl (fun u => u) (m := .p 0) (off := 0) (m2 := .r 2 3 0) (c := .t (.v (.string (S s)))) (ob := boxO 68 [.t d0]) (ob2 := ⟨[.t (.v (.string (S s)))], 68, false, true⟩) (t := 68) rfl rfl rfl rfl rfl rfl (by simp [boxO]) (by kernel_rfl) (by kernel_rfl) (by intro u h; cases u <;> first | rfl | (cases h)) (fun w a b u h h1 => as_set w a b u h h1)) ?_
      refine s_nil (r_false ?_)
      refine q_next ?_
      refine k_seq ?_
      refine k_region rfl ?_
      refine a_op ?_
      refine s_nil (r_false ?_)
      refine q_next ?_
      refine k_ret ?_
      refine q_seq_ret (q_block_ret (q_loopF_ret (q_block_ret ?_)))
      refine ⟨.inr rfl, a_ret [(.p 0, .p 0), (.p 1, .p 1)] (by rw [results49]) ?_ ?_ ?_⟩ <;> simp [-List.map_set, -List.map_replicate, -List.reduceReplicate, -List.map_map, -List.map_drop, -List.map_take, num, bol, txt, w8, w16, w32, w64, lst, cls, rowO, boxO, List.take_of_length_le]
    · refine a_st ?_
      refine k_block ?_
      refine k_seq ?_
      refine k_seq ?_
      refine k_region rfl ?_
      refine a_op ?_
      refine a_ext #[(.iface 95 (.agg #[.string (S q), wv (.string (S s)) p]))] (.iface 128 (.agg #[.pointer (some ⟨1, 95, none⟩)])) ?_ (as_to95 _)
      refine a_op ?_
      refine a_by (spec_extma #[.iface 128 (.agg #[.pointer (some ⟨1, 68, none⟩)])] (ty := 128) (v := (.agg #[.pointer (some ⟨1, 95, none⟩)])) (v' := (.agg #[.pointer (some ⟨1, 95, none⟩)])) (f := 97) (res := .bool false) rfl rfl (by kernel_rfl) (by kernel_rfl) (by intro w; kernel_rfl) as_as95) ?_
      refine s_nil (r_false ?_)
      refine q_next ?_
      refine a_false ?_
      refine k_skip ?_
      refine q_next ?_
      refine k_seq ?_
      refine k_seq ?_
      refine k_region rfl ?_
      refine a_op ?_
      refine a_assert (.iface 95 (.agg #[.string (S q), wv (.string (S s)) p])) (.tuple #[.nilIface, .bool false]) ?_ (as_lk _ _)
      refine a_op ?_
      refine a_plain (.nilIface) ?_
      refine a_plain (.bool false) ?_
      refine a_op ?_
      refine a_op ?_
      refine s_nil (r_false ?_)
      refine q_next ?_
      refine k_seq ?_
      refine k_region rfl ?_
      refine a_op ?_
      refine a_op ?_
      refine a_no ?_
      refine a_no ?_
      refine a_no ?_
      refine a_op ?_
      refine s_nil (r_false ?_)
      refine q_next ?_
      refine a_false ?_
      refine k_skip ?_
      refine q_next ?_
      refine k_seq ?_
      refine k_region rfl ?_
      refine a_op ?_
      refine s_nil (r_false ?_)
      refine q_next ?_
      refine k_block ?_
      refine k_seq ?_
      refine k_region rfl ?_
      refine a_assert (.iface 95 (.agg #[.string (S q), wv (.string (S s)) p])) (.tuple #[.iface 95 (.agg #[.string (S q), wv (.string (S s)) p]), .bool true]) ?_ (as_hs _ _)
      refine a_plain (.bool true) ?_
      refine a_plain (.iface 95 (.agg #[.string (S q), wv (.string (S s)) p])) ?_
      refine s_nil (r_false ?_)
      refine q_next ?_
      refine a_true ?_
      refine k_seq ?_
      refine k_region rfl ?_
      refine a_op ?_
      refine s_nil (r_false ?_)
      refine q_next ?_
      refine k_seq ?_
      refine k_region rfl ?_
      refine a_op ?_
      refine a_invoke [] false (unwrap_good Γ q (wv (.string (S s)) p) rfl) ?_ (ty := 95) (v := .agg #[.string (S q), wv (.string (S s)) p]) (v' := .agg #[.string (S q), wv (.string (S s)) p]) (f := 90) rfl (by intro w; kernel_rfl)
      refine a_op ?_
      refine s_nil (r_false ?_)
      refine q_next ?_
      refine k_seq ?_
      refine k_region rfl ?_
      refine a_op ?_
      refine a_plain (.bool false) ?_
      refine s_nil (r_false ?_)
      refine q_next ?_
      refine a_false ?_
      refine k_skip ?_
      refine q_block (q_block (q_loopF (p) (a_le ?_) ?_ ?_))
      · refine le_same ?_ ?_ ?_ <;> simp [-List.map_set, -List.map_replicate, -List.reduceReplicate, -List.map_map, -List.map_drop, -List.map_take, num, bol, txt, w8, w16, w32, w64, lst, cls, rowO, boxO, List.take_of_length_le, wv]
      · trivial
      · simp

theorem As_good (Γ : Gl) (hE : EG Γ) (p : List (List UInt8)) (s : List UInt8) (d0 : T) : Go.Ot.Good Γ prog 24 [.t (.v (wv (.string (S s)) p)), .ifc 70 (.ptr (.p 0) 0)] [boxO 68 [.t d0]] (.t (bol true)) [some (boxO 68 [.t (.v (.string (S s)))])] [] := by
  refine a_body F.mix func24 (by rfl) ntmps24 ?_
  refine k_seq ?_
  refine k_region rfl ?_
  refine a_op ?_
  refine s_nil (r_false ?_)
  refine q_next ?_
  refine k_seq ?_
  refine k_seq ?_
  refine k_region rfl ?_
  refine a_op ?_
  refine a_plain (.bool false) ?_
  refine s_nil (r_false ?_)
  refine q_next ?_
  refine a_false ?_
  refine k_skip ?_
  refine q_next ?_
  refine k_seq ?_
  refine k_seq ?_
  refine k_region rfl ?_
  refine a_op ?_
  refine a_isnil false ?_
  refine s_nil (r_false ?_)
  refine q_next ?_
  refine a_false ?_
  refine k_skip ?_
  refine q_next ?_
  refine k_seq ?_
  refine k_region rfl ?_
  refine a_op ?_
  refine a_by (spec_valueOf (x := .tmp 13) rfl (ty := 70) (c := .ptr (.p 0) 0) (H := .pointer (some ⟨1, 70, none⟩)) (F := .int .u64 150) 5 1 0 rfl rfl rfl (val_of_ptr as_vo)) ?_
  refine a_op ?_
  refine a_op ?_
  refine s_nil (r_false ?_)
  refine q_next ?_
  refine k_seq ?_
  refine k_region rfl ?_
  refine a_op ?_
  refine a_by (spec_ext1 (x := .tmp 15) rfl (val_type as_ty)) ?_
  refine a_op ?_
  refine s_nil (r_false ?_)
  refine q_next ?_
  refine k_seq ?_
  refine k_seq ?_
  refine k_region rfl ?_
  refine a_op ?_
  refine a_extm (.int .u8 22) (ty := 128) (v := (.agg #[.pointer (some ⟨1, 70, none⟩)])) (v' := .pointer (some ⟨1, 70, none⟩)) (f := 84) ?_ (by intro w; kernel_rfl) as_kd70
  refine a_op ?_
  refine a_op ?_
  refine a_go ?_
  refine a_bygo (spec_ext1m (x := .tmp 21) rfl (m := .r 5 1 0) (d0 := .ptr (.p 0) 0) (ob := ⟨[.ptr (.p 0) 0], 70, false, true⟩) rfl rfl (val_isNil as_nil_)) ?_
  refine a_op ?_
  refine s_nil (r_false ?_)
  refine q_next ?_
  refine a_false ?_
  refine k_skip ?_
  refine q_next ?_
  refine k_seq ?_
  refine k_region rfl ?_
  refine a_op ?_
  refine a_extm (.iface 128 (.agg #[.pointer (some ⟨1, 68, none⟩)])) (ty := 128) (v := (.agg #[.pointer (some ⟨1, 70, none⟩)])) (v' := (.agg #[.pointer (some ⟨1, 70, none⟩)])) (f := 99) ?_ (by intro w; kernel_rfl) as_el
  refine a_op ?_
  refine s_nil (r_false ?_)
  refine q_next ?_
  refine k_seq ?_
  refine k_seq ?_
  refine k_region rfl ?_
  refine a_op ?_
  refine a_extm (.int .u8 24) (ty := 128) (v := (.agg #[.pointer (some ⟨1, 68, none⟩)])) (v' := .pointer (some ⟨1, 68, none⟩)) (f := 84) ?_ (by intro w; kernel_rfl) as_kd68
  refine a_op ?_
  refine a_op ?_
  refine a_go ?_
  refine a_bygo (spec_loadGlobal 106 0 rfl hE.1 hE.2 (by kernel_rfl) (by kernel_rfl) (by kernel_rfl) (by kernel_rfl)) ?_
  refine a_bygo (spec_extma #[.iface 128 (.agg #[.pointer (some ⟨1, 65, none⟩)])] (ty := 128) (v := (.agg #[.pointer (some ⟨1, 68, none⟩)])) (v' := (.agg #[.pointer (some ⟨1, 68, none⟩)])) (f := 100) (res := .bool true) rfl rfl (by kernel_rfl) (by kernel_rfl) (by intro w; kernel_rfl) as_im) ?_
  refine a_go ?_
  refine a_op ?_
  refine s_nil (r_false ?_)
  refine q_next ?_
  refine a_false ?_
  refine k_skip ?_
  refine q_next ?_
  refine k_seq ?_
  refine k_region rfl ?_
  iterate 4 refine a_op ?_
  refine a_callp [.p 0, .r 5 1 0] [] [] false (asin_good Γ p s d0) ?_
  refine a_op ?_
  refine s_nil (r_false ?_)
  refine q_next ?_
  refine k_ret ?_
  refine ⟨.inr rfl, a_ret [(.p 0, .p 0)] (by rw [results24]) ?_ ?_ ?_⟩ <;> simp [-List.map_set, -List.map_replicate, -List.reduceReplicate, -List.map_map, -List.map_drop, -List.map_take, num, bol, txt, w8, w16, w32, w64, lst, cls, rowO, boxO, List.take_of_length_le]

theorem Asnil_good (Γ : Gl) (d0 : T) : Go.Ot.Good Γ prog 24 [.t (.v .nilIface), .ifc 70 (.ptr (.p 0) 0)] [boxO 68 [.t d0]] (.t (bol false)) [some (boxO 68 [.t d0])] [] := by
  refine a_body F.mix func24 (by rfl) ntmps24 ?_
  refine k_seq ?_
  refine k_region rfl ?_
  refine a_op ?_
  refine s_nil (r_false ?_)
  refine q_next ?_
  refine k_seq ?_
  refine k_seq ?_
  refine k_region rfl ?_
  refine a_op ?_
  refine a_nilnil false ?_
  refine s_nil (r_false ?_)
  refine q_next ?_
  refine a_true ?_
  refine k_seq ?_
  refine k_region rfl ?_
  refine a_op ?_
  refine s_nil (r_false ?_)
  refine q_next ?_
  refine k_ret ?_
  refine q_seq_ret ?_
  refine ⟨.inr rfl, a_ret [(.p 0, .p 0)] (by rw [results24]) ?_ ?_ ?_⟩ <;> simp [-List.map_set, -List.map_replicate, -List.reduceReplicate, -List.map_map, -List.map_drop, -List.map_take, num, bol, txt, w8, w16, w32, w64, lst, cls, rowO, boxO, List.take_of_length_le]

end Go.Proofs.Tryd.Sn
