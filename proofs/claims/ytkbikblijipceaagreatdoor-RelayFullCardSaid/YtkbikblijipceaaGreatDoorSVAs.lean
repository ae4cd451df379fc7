/- Contracts of this program's functions. -/
import Derived.Test.YtkbikblijipceaaGreatDoorSF
import Derived.Test.YtkbikblijipceaaGreatDoorOtE
set_option maxHeartbeats 4000000
set_option maxRecDepth 100000
set_option linter.unusedVariables false
set_option linter.unusedSimpArgs false
namespace Go.Proofs.Tryz.Rs
open Go Go.Ot
attribute [local simp] num bol txt w8 w16 w32 w64 lst cls xZ xR List.take_of_length_le
attribute [local irreducible] wpK wpS uE wH wV wN wZ xD Le
open Extern Extern.Stop Go.Stop
theorem as_vo (w : World) (a : Addr) : (callFunc 96 #[.iface 90 (.pointer (some a))]).run prog w = .ok (.value (.agg #[.pointer (some ⟨2, 90, none⟩), .pointer (some ⟨w.heap.size, 0, none⟩), .int .u64 150])) (w.alloc (.cells #[.pointer (some a)] 90)) := by
  rw [run_callFunc_extern func96 (by kernel_rfl) (by kernel_rfl) (by kernel_rfl) (e := fun args => ReflectliteValue.unpack (args.getD 0 (.tuple #[]))) (by kernel_rfl)]
  kernel_rfl
theorem as_ve (w : World) (n : Int) : (callFunc 96 #[.iface 88 (.agg #[.int .i64 n])]).run prog w = .ok (.value (.agg #[.pointer (some ⟨2, 88, none⟩), .pointer (some ⟨w.heap.size, 0, none⟩), .int .u64 153])) (w.alloc (.cells #[.int .i64 n] 88)) := by
  rw [run_callFunc_extern func96 (by kernel_rfl) (by kernel_rfl) (by kernel_rfl) (e := fun args => ReflectliteValue.unpack (args.getD 0 (.tuple #[]))) (by kernel_rfl)]
  kernel_rfl
theorem as_ty (w : World) (a : Addr) : (callFunc 97 #[.agg #[.pointer (some ⟨2, 90, none⟩), .pointer (some a), .int .u64 150]]).run prog w = .ok (.value (.iface 188 (.agg #[.pointer (some ⟨2, 90, none⟩)]))) w := by
  rw [run_callFunc_extern func97 (by kernel_rfl) (by kernel_rfl) (by kernel_rfl) (e := ReflectliteValue.methodAny (ReflectliteValue.valueError "reflectlite.Value.Type" 0) (fun t _ _ _ => ReflectliteType.toType t)) (by kernel_rfl)]
  kernel_rfl
theorem yJr (w : World) : (callFunc 207 #[.pointer (some ⟨2, 90, none⟩)]).run prog w = .ok (.value (.int .u8 22)) w := by
  rw [run_callFunc_extern func207 (by kernel_rfl) (by kernel_rfl) (by kernel_rfl) (e := ReflectliteType.abiMethod fun t => do pure (.int .u8 (← Rtype.kind t))) (by kernel_rfl)]
  kernel_rfl
theorem yJs (w : World) : (callFunc 207 #[.pointer (some ⟨2, 88, none⟩)]).run prog w = .ok (.value (.int .u8 25)) w := by
  rw [run_callFunc_extern func207 (by kernel_rfl) (by kernel_rfl) (by kernel_rfl) (e := ReflectliteType.abiMethod fun t => do pure (.int .u8 (← Rtype.kind t))) (by kernel_rfl)]
  kernel_rfl
theorem as_el (w : World) : (callFunc 223 #[.agg #[.pointer (some ⟨2, 90, none⟩)]]).run prog w = .ok (.value (.iface 188 (.agg #[.pointer (some ⟨2, 88, none⟩)]))) w := by
  rw [run_callFunc_extern func223 (by kernel_rfl) (by kernel_rfl) (by kernel_rfl) (e := ReflectliteType.method ReflectliteType.elem) (by kernel_rfl)]
  kernel_rfl
theorem as_im (w : World) : (callFunc 224 (#[.agg #[.pointer (some ⟨2, 88, none⟩)]] ++ #[.iface 188 (.agg #[.pointer (some ⟨2, 81, none⟩)])])).run prog w = .ok (.value (.bool true)) w := by
  rw [run_callFunc_extern func224 (by kernel_rfl) (by kernel_rfl) (by kernel_rfl) (e := ReflectliteType.relation "Implements" ReflectliteType.implements_) (by kernel_rfl)]
  kernel_rfl
theorem yJt (w : World) : (callFunc 221 (#[.agg #[.pointer (some ⟨2, 88, none⟩)]] ++ #[.iface 188 (.agg #[.pointer (some ⟨2, 88, none⟩)])])).run prog w = .ok (.value (.bool true)) w := by
  rw [run_callFunc_extern func221 (by kernel_rfl) (by kernel_rfl) (by kernel_rfl) (e := ReflectliteType.relation "AssignableTo" ReflectliteType.assignableTo) (by kernel_rfl)]
  kernel_rfl
theorem yJp (v : Value) (w : World) : (callFunc 131 #[.iface 88 v]).run prog w = .ok (.value (.iface 188 (.agg #[.pointer (some ⟨2, 88, none⟩)]))) w := by
  rw [run_callFunc_extern func131 (by kernel_rfl) (by kernel_rfl) (by kernel_rfl) (e := ReflectliteType.typeOf) (by kernel_rfl)]
  kernel_rfl
theorem yJu (w : World) : (callFunc 221 (#[.agg #[.pointer (some ⟨2, 86, none⟩)]] ++ #[.iface 188 (.agg #[.pointer (some ⟨2, 88, none⟩)])])).run prog w = .ok (.value (.bool false)) w := by
  rw [run_callFunc_extern func221 (by kernel_rfl) (by kernel_rfl) (by kernel_rfl) (e := ReflectliteType.relation "AssignableTo" ReflectliteType.assignableTo) (by kernel_rfl)]
  kernel_rfl
theorem yJq (v : Value) (w : World) : (callFunc 131 #[.iface 86 v]).run prog w = .ok (.value (.iface 188 (.agg #[.pointer (some ⟨2, 86, none⟩)]))) w := by
  rw [run_callFunc_extern func131 (by kernel_rfl) (by kernel_rfl) (by kernel_rfl) (e := ReflectliteType.typeOf) (by kernel_rfl)]
  kernel_rfl
theorem as_rlm (z : Sem Value) (f : TypeId → Addr → Nat → Nat → Sem Value) (v : Value) : ReflectliteValue.method z f #[v] = (do match ← ReflectliteValue.parts v with | none => z | some (t, a, fl) => f t a fl (fl % 32)) := rfl
theorem as_parts (a : Addr) (w : World) : (ReflectliteValue.parts (.agg #[.pointer (some ⟨2, 90, none⟩), .pointer (some a), .int .u64 150])).run prog w = .ok (some (90, a, 150)) w := by kernel_rfl
theorem as_nil_ (w : World) (a q : Addr) (ha : w.cell? a = some (.pointer (some q))) : (callFunc 98 #[.agg #[.pointer (some ⟨2, 90, none⟩), .pointer (some a), .int .u64 150]]).run prog w = .ok (.value (.bool false)) w := by
  rw [run_callFunc_extern func98 (by kernel_rfl) (by kernel_rfl) (by kernel_rfl) (e := ReflectliteValue.method (ReflectliteValue.valueError "reflectlite.Value.IsNil" 0) ReflectliteValue.isNil) (by kernel_rfl)]
  simp only [Sem.run_bind, as_rlm, as_parts, Result.andThen]
  simp [ReflectliteValue.isNil, loadVar, isAgg, underlying, underlying90, ha, Result.andThen]
theorem as_elemOf (w : World) : (Rtype.elem? 90).run prog w = .ok (some 88) w := by kernel_rfl
theorem as_mk (q : Addr) (w : World) : (ReflectliteValue.mk 88 q ReflectliteValue.flagAddr).run prog w = .ok (.agg #[.pointer (some ⟨2, 88, none⟩), .pointer (some q), .int .u64 409]) w := by kernel_rfl
theorem as_elv (w : World) (a q : Addr) (ha : w.cell? a = some (.pointer (some q))) : (callFunc 132 #[.agg #[.pointer (some ⟨2, 90, none⟩), .pointer (some a), .int .u64 150]]).run prog w = .ok (.value (.agg #[.pointer (some ⟨2, 88, none⟩), .pointer (some q), .int .u64 409])) w := by
  rw [run_callFunc_extern func132 (by kernel_rfl) (by kernel_rfl) (by kernel_rfl) (e := ReflectliteValue.method (ReflectliteValue.valueError "reflectlite.Value.Elem" 0) ReflectliteValue.elem) (by kernel_rfl)]
  simp only [Sem.run_bind, as_rlm, as_parts, Result.andThen]
  simp [ReflectliteValue.elem, loadVar, isAgg, underlying, underlying90, ha, Result.andThen, as_elemOf, as_mk]
theorem as_rls (v x : Value) : ReflectliteValue.set #[v, x] = (do
    let (some (dst, a, fl), some (src, b, _)) := (← ReflectliteValue.parts v, ← ReflectliteValue.parts x)
      | unsupported (.noEntry "extern/(internal/reflectlite.Value).Set.zeroValue")
    if fl / ReflectliteValue.flagAddr % 2 == 0 then unsupported (.noEntry "extern/(internal/reflectlite.Value).Set.unaddressable")
    let val ← loadVar src b
    if ← Rtype.directlyAssignable dst src then storeVar dst a val
    else if ← Rtype.implements dst src then
      if (← Rtype.kind src) == 20 then
        match val with
        | .nilIface => unsupported (.noEntry "extern/reflectlite: a nil value of one interface type handed on as a value of another")
        | _ => storeVar dst a val
      else storeVar dst a (.iface src val)
    else panicString ("reflectlite.Set: value of type " ++ (← Rtype.spelt src) ++ " is not assignable to type " ++ (← Rtype.spelt dst))
    pure (.tuple #[])) := rfl
theorem as_pa (a : Addr) (w : World) : (ReflectliteValue.parts (.agg #[.pointer (some ⟨2, 88, none⟩), .pointer (some a), .int .u64 409])).run prog w = .ok (some (88, a, 409)) w := by kernel_rfl
theorem as_pb (a : Addr) (w : World) : (ReflectliteValue.parts (.agg #[.pointer (some ⟨2, 88, none⟩), .pointer (some a), .int .u64 153])).run prog w = .ok (some (88, a, 153)) w := by kernel_rfl
theorem as_da (w : World) : (Rtype.directlyAssignable 88 88).run prog w = .ok true w := by kernel_rfl
theorem as_lv (w : World) (b : Addr) (u : Value) (hb : w.cell? b = some u) : (loadVar 88 b).run prog w = .ok (.agg #[u]) w := by
  obtain ⟨x, h0, h⟩ := vJ (P := prog) (w := w) (t := 88) b [u] (by kernel_rfl) (by kernel_rfl) (by rw [F.c88]; rfl) (fun _ => F.c88) (by
    intro j z hj
    cases j with
    | zero => simp at hj; subst hj; have e : b.add 0 = b := by unfold Addr.add; split <;> simp_all
              rw [e]; exact hb
    | succ j => simp at hj)
  rw [F.g88] at h h0
  exact h
theorem as_set (w : World) (a b : Addr) (u : Value) (hb : w.cell? b = some u) (h1 : u.oneCell' = true) : (callFunc 133 #[.agg #[.pointer (some ⟨2, 88, none⟩), .pointer (some a), .int .u64 409], .agg #[.pointer (some ⟨2, 88, none⟩), .pointer (some b), .int .u64 153]]).run prog w = (do storeVar 88 a (.agg #[u]); pure (.value (.tuple #[])) : Sem Next).run prog w := by
  rw [run_callFunc_extern func133 (by kernel_rfl) (by kernel_rfl) (by kernel_rfl) (e := ReflectliteValue.set) (by kernel_rfl)]
  simp only [Sem.run_bind, as_rls, as_pa, as_pb, Result.andThen]
  simp [ReflectliteValue.flagAddr, Result.andThen, as_da, as_lv w b u hb]
  cases (storeVar 88 a (.agg #[u])).run prog w <;> rfl
def wvT : List Int → TypeId
  | [] => 88
  | _ :: _ => 86
def wvV (v0 : Value) : List Int → Value
  | [] => v0
  | i :: p => .agg #[.int .i64 i, .iface (wvT p) (wvV v0 p)]
def wv (v0 : Value) (p : List Int) : Value := .iface (wvT p) (wvV v0 p)
theorem wv_nil (v0 : Value) : wv v0 [] = .iface 88 v0 := rfl
theorem wv_cons (v0 : Value) (i : Int) (p : List Int) : wv v0 (i :: p) = .iface 86 (.agg #[.int .i64 i, wv v0 p]) := rfl
theorem wv_one (v0 : Value) (p : List Int) : (wv v0 p).oneCell' = true := rfl
attribute [push_cast] wv_one
def EG (Γ : Gl) : Prop := (∀ w, Γ.G w → w.cell? ⟨0, 0, none⟩ = some (.iface 188 (.agg #[.pointer (some ⟨2, 81, none⟩)]))) ∧ 0 < Γ.gs
theorem as_lk (v : Value) (xT : TypeId) (w : World) : (Instr.typeAssert (.iface 86 v) xT 193 true).run prog w = .ok (.tuple #[.nilIface, .bool false]) w := run_typeAssert_lacksB underlying193 (by kernel_rfl) (by kernel_rfl) v xT w
theorem as_hs (v : Value) (xT : TypeId) (w : World) : (Instr.typeAssert (.iface 86 v) xT 196 true).run prog w = .ok (.tuple #[.iface 86 v, .bool true]) w := run_typeAssert_hasB underlying196 (by kernel_rfl) v xT w
theorem unwrap_good (Γ : Gl) (i : Int) (v : Value) (h1 : v.oneCell' = true) : Go.Ot.Good Γ prog 211 [.agg [.t (.v (.int .i64 i)), .t (.v v)]] [] (.t (.v v)) [] [] := by
  refine yR F.mix func211 (by rfl) ntmps211 ?_
  refine yD (yA rfl ?_)
  refine yF (hs := by (simp only [push_cast, h1] <;> rfl)) ?_
  refine yF ?_
  refine yE (yB (yC (yD (yA rfl ?_))))
  iterate 3 refine yF ?_
  refine yE (yB (yC (yO ?_)))
  refine ⟨.inr rfl, yP [] (by rw [results211]) ?_ ?_ ?_⟩ <;> simp [h1]
theorem asin_good (Γ : Gl) (p : List Int) (n : Int) (d0 : T) : Go.Ot.Good Γ prog 99 [.t (.v (wv (.agg #[.int .i64 n]) p)), .ifc 90 (.ptr (.p 0) 0), .agg [.t (.v (.pointer (some ⟨2, 90, none⟩))), .ptr (.p 1) 0, .t (.v (.int .u64 150))], .t (.v (.iface 188 (.agg #[.pointer (some ⟨2, 88, none⟩)])))] [xR 88 [.t d0], ⟨[.ptr (.p 0) 0], 90, false, true⟩] (.t (bol true)) [some (xR 88 [.t (.v (.int .i64 n))]), some (⟨[.ptr (.p 0) 0], 90, false, true⟩)] [] := by
  refine yR F.mix func99 (by rfl) ntmps99 ?_
  refine yD (yA rfl ?_)
  iterate 2 refine yF ?_
  refine yE (yB (yC (yH ?_)))
  refine xN (fun sl L (p : List Int) => ⟨setAll (setBad sl [2, 8, 9, 10, 11, 12, 14, 15, 16, 17, 18, 19, 20, 21, 22, 23, 24, 25, 26, 27, 28, 29, 30, 31, 32, 33, 34, 35, 36, 37, 38, 39, 40, 41, 42, 43, 44, 45, 46, 47, 48, 49, 50, 51, 52, 53, 54, 55, 56, 57, 58, 59, 60, 61]) [(0, .t (.v (wv (.agg #[.int .i64 n]) p)))], Go.Ot.look (L)⟩) (fun _ => True) (fun p => p.length) (p) (wF ?_) ?_ ?_
  · refine yT ?_ ?_ ?_ <;> simp [wv]
  · trivial
  · intro p _
    rcases p with _ | ⟨i, p⟩
    · refine vE ?_
      refine yH (yD (yD (yA rfl ?_)))
      refine yF ?_
      refine yC1 #[(.iface 88 (.agg #[.int .i64 n]))] (.iface 188 (.agg #[.pointer (some ⟨2, 88, none⟩)])) ?_ (yJp _)
      refine yF ?_
      refine yAh (tJ #[.iface 188 (.agg #[.pointer (some ⟨2, 88, none⟩)])] (ty := 188) (v := (.agg #[.pointer (some ⟨2, 88, none⟩)])) (v' := (.agg #[.pointer (some ⟨2, 88, none⟩)])) (f := 221) (res := .bool true) rfl rfl (by kernel_rfl) (by kernel_rfl) (by intro w; kernel_rfl) yJt) ?_
      refine yE (yB (yC (xF (yD (yA rfl ?_)))))
      refine yF ?_
      refine yAh (pV (x := .tmp 20) rfl (r := .agg [.t (.v (.pointer (some ⟨2, 88, none⟩))), .ptr (.p 0) 0, .t (.v (.int .u64 409))]) (m := .p 1) (d0 := .ptr (.p 0) 0) (ob := ⟨[.ptr (.p 0) 0], 90, false, true⟩) rfl rfl (yBa rfl rfl as_elv)) ?_
      refine yF ?_
      refine yAh (sE (x := .tmp 22) rfl (ty := 88) (c := .t (.v (.int .i64 n))) (H := .pointer (some ⟨2, 88, none⟩)) (F := .int .u64 153) 2 3 0 rfl rfl rfl (yA9 rfl fun w => as_ve w n)) ?_
      refine yAh (pE rfl (fun u => .agg #[u]) (m := .p 0) (off := 0) (m2 := .r 2 3 0) (c := .t (.v (.int .i64 n))) (ob := xR 88 [.t d0]) (ob2 := ⟨[.t (.v (.int .i64 n))], 88, false, true⟩) (t := 88) rfl rfl rfl rfl rfl rfl (by simp [xR]) (by kernel_rfl) (by kernel_rfl) (by intro u h; rfl) (fun w a b u h h1 => as_set w a b u h h1)) ?_
      refine yE (yB (yC (yD (yA rfl ?_))))
      refine yF ?_
      refine yE (yB (yC (yO (yG (yI (wI (yI ?_)))))))
      refine ⟨.inr rfl, yP [(.p 0, .p 0), (.p 1, .p 1)] (by rw [results99]) ?_ ?_ ?_⟩ <;> simp
    · refine vE ?_
      refine yH (yD (yD (yA rfl ?_)))
      refine yF ?_
      refine yC1 #[(.iface 86 (.agg #[.int .i64 i, wv (.agg #[.int .i64 n]) p]))] (.iface 188 (.agg #[.pointer (some ⟨2, 86, none⟩)])) ?_ (yJq _)
      refine yF ?_
      refine yAh (tJ #[.iface 188 (.agg #[.pointer (some ⟨2, 88, none⟩)])] (ty := 188) (v := (.agg #[.pointer (some ⟨2, 86, none⟩)])) (v' := (.agg #[.pointer (some ⟨2, 86, none⟩)])) (f := 221) (res := .bool false) rfl rfl (by kernel_rfl) (by kernel_rfl) (by intro w; kernel_rfl) yJu) ?_
      refine yE (yB (yC (yJ (yL (yC (yD (yD (yA rfl ?_))))))))
      refine yF ?_
      refine vW (.iface 86 (.agg #[.int .i64 i, wv (.agg #[.int .i64 n]) p])) (.tuple #[.nilIface, .bool false]) ?_ (as_lk _ _)
      refine yF ?_
      refine wQ (.nilIface) ?_
      refine wQ (.bool false) ?_
      iterate 2 refine yF ?_
      refine yE (yB (yC (yD (yA rfl ?_))))
      iterate 2 refine yF ?_
      iterate 3 refine wJ ?_
      refine yF ?_
      refine yE (yB (yC (yJ (yL (yC (yD (yA rfl ?_)))))))
      refine yF ?_
      refine yE (yB (yC (yH (yD (yA rfl ?_)))))
      refine vW (.iface 86 (.agg #[.int .i64 i, wv (.agg #[.int .i64 n]) p])) (.tuple #[.iface 86 (.agg #[.int .i64 i, wv (.agg #[.int .i64 n]) p]), .bool true]) ?_ (as_hs _ _)
      refine wQ (.bool true) ?_
      refine wQ (.iface 86 (.agg #[.int .i64 i, wv (.agg #[.int .i64 n]) p])) ?_
      refine yE (yB (yC (xF (yD (yA rfl ?_)))))
      refine yF ?_
      refine yE (yB (yC (yD (yA rfl ?_))))
      refine yF ?_
      refine kZ [] false (unwrap_good Γ i (wv (.agg #[.int .i64 n]) p) rfl) ?_ (ty := 86) (v := .agg #[.int .i64 i, wv (.agg #[.int .i64 n]) p]) (v' := .agg #[.int .i64 i, wv (.agg #[.int .i64 n]) p]) (f := 211) rfl (by intro w; kernel_rfl)
      refine yF ?_
      refine yE (yB (yC (yD (yA rfl ?_))))
      refine yF ?_
      refine wQ (.bool false) ?_
      refine yE (yB (yC (yJ (yL ?_))))
      refine yS (yS (xE (p) (wF ?_) ?_ ?_))
      · refine yT ?_ ?_ ?_ <;> simp [wv]
      · trivial
      · simp
theorem As_good (Γ : Gl) (hE : EG Γ) (p : List Int) (n : Int) (d0 : T) : Go.Ot.Good Γ prog 39 [.t (.v (wv (.agg #[.int .i64 n]) p)), .ifc 90 (.ptr (.p 0) 0)] [xR 88 [.t d0]] (.t (bol true)) [some (xR 88 [.t (.v (.int .i64 n))])] [] := by
  refine yR F.mix func39 (by rfl) ntmps39 ?_
  refine yD (yA rfl ?_)
  refine yF ?_
  refine yE (yB (yC (yD (yD (yA rfl ?_)))))
  refine yF ?_
  refine wQ (.bool false) ?_
  refine yE (yB (yC (yJ (yL (yC (yD (yD (yA rfl ?_))))))))
  refine yF ?_
  refine tF false ?_
  refine yE (yB (yC (yJ (yL (yC (yD (yA rfl ?_)))))))
  refine yF ?_
  refine yAh (sE (x := .tmp 13) rfl (ty := 90) (c := .ptr (.p 0) 0) (H := .pointer (some ⟨2, 90, none⟩)) (F := .int .u64 150) 5 1 0 rfl rfl rfl (fF as_vo)) ?_
  iterate 2 refine yF ?_
  refine yE (yB (yC (yD (yA rfl ?_))))
  refine yF ?_
  refine yAh (bD (x := .tmp 15) rfl (yA8 as_ty)) ?_
  refine yF ?_
  refine yE (yB (yC (yD (yD (yA rfl ?_)))))
  refine yF ?_
  refine kH (.int .u8 22) (ty := 188) (v := (.agg #[.pointer (some ⟨2, 90, none⟩)])) (v' := .pointer (some ⟨2, 90, none⟩)) (f := 207) ?_ (by intro w; kernel_rfl) yJr
  iterate 2 refine yF ?_
  refine xB ?_
  refine eP (pV (x := .tmp 21) rfl (m := .r 5 1 0) (d0 := .ptr (.p 0) 0) (ob := ⟨[.ptr (.p 0) 0], 90, false, true⟩) rfl rfl (cQ as_nil_)) ?_
  refine yF ?_
  refine yE (yB (yC (yJ (yL (yC (yD (yA rfl ?_)))))))
  refine yF ?_
  refine kH (.iface 188 (.agg #[.pointer (some ⟨2, 88, none⟩)])) (ty := 188) (v := (.agg #[.pointer (some ⟨2, 90, none⟩)])) (v' := (.agg #[.pointer (some ⟨2, 90, none⟩)])) (f := 223) ?_ (by intro w; kernel_rfl) as_el
  refine yF ?_
  refine yE (yB (yC (yD (yD (yA rfl ?_)))))
  refine yF ?_
  refine kH (.int .u8 25) (ty := 188) (v := (.agg #[.pointer (some ⟨2, 88, none⟩)])) (v' := .pointer (some ⟨2, 88, none⟩)) (f := 207) ?_ (by intro w; kernel_rfl) yJs
  iterate 2 refine yF ?_
  refine xB ?_
  refine eP (pF 144 0 rfl hE.1 hE.2 (by kernel_rfl) (by kernel_rfl) (by kernel_rfl) (by kernel_rfl)) ?_
  refine eP (tJ #[.iface 188 (.agg #[.pointer (some ⟨2, 81, none⟩)])] (ty := 188) (v := (.agg #[.pointer (some ⟨2, 88, none⟩)])) (v' := (.agg #[.pointer (some ⟨2, 88, none⟩)])) (f := 224) (res := .bool true) rfl rfl (by kernel_rfl) (by kernel_rfl) (by intro w; kernel_rfl) as_im) ?_
  refine xB ?_
  refine yF ?_
  refine yE (yB (yC (yJ (yL (yC (yD (yA rfl ?_)))))))
  iterate 4 refine yF ?_
  refine wG [.p 0, .r 5 1 0] [] [] false (asin_good Γ p n d0) ?_
  refine yF ?_
  refine yE (yB (yC (yO ?_)))
  refine ⟨.inr rfl, yP [(.p 0, .p 0)] (by rw [results39]) ?_ ?_ ?_⟩ <;> simp
theorem Asnil_good (Γ : Gl) (d0 : T) : Go.Ot.Good Γ prog 39 [.t (.v .nilIface), .ifc 90 (.ptr (.p 0) 0)] [xR 88 [.t d0]] (.t (bol false)) [some (xR 88 [.t d0])] [] := by
  refine yR F.mix func39 (by rfl) ntmps39 ?_
  refine yD (yA rfl ?_)
  refine yF ?_
  refine yE (yB (yC (yD (yD (yA rfl ?_)))))
  refine yF ?_
  refine vP false ?_
  refine yE (yB (yC (xF (yD (yA rfl ?_)))))
  refine yF ?_
  refine yE (yB (yC (yO (yG ?_))))
  refine ⟨.inr rfl, yP [(.p 0, .p 0)] (by rw [results39]) ?_ ?_ ?_⟩ <;> simp
end Go.Proofs.Tryz.Rs
