/- Interface values that are plain data: assertions, methods, functions of the library without a body. -/
import Derived.Test.YtnliecfmadifkaaDoorOtD
import Derived.KernelRfl
import Derived.Laws.Externs
import Derived.Stop.Asserts
import Derived.LaidEqlPtr
import Derived.Lib.Builder
import Derived.Lib.UnsafeStr
set_option linter.unusedVariables false
set_option linter.unusedSimpArgs false
namespace Go.Ot
mutual
/-- The value that a tree is, if it leads to no memory. -/
def T.plain : T → Option Value
  | .v x => some x
  | .sl _ _ => none
  | .ifc t d => (T.plain d).map (.iface t)
  | .agg cs => (T.plains cs).map fun vs => .agg vs.toArray
def T.plains : List T → Option (List Value)
  | [] => some []
  | c :: cs => match T.plain c, T.plains cs with
    | some x, some xs => some (x :: xs)
    | _, _ => none
end
mutual
def D.plain : D → Option Value
  | .t x => x.plain
  | .ifc ty d => (D.plain d).map (.iface ty)
  | .agg cs => (D.plains cs).map fun vs => .agg vs.toArray
  | .fn f [] => some (.func (.func f) #[] #[])
  | _ => none
def D.plains : List D → Option (List Value)
  | [] => some []
  | c :: cs => match D.plain c, D.plains cs with
    | some x, some xs => some (x :: xs)
    | _, _ => none
end
mutual
theorem RepT.plain {w : World} {M : Nat → Prop} : ∀ (x : T) (u v : Value), RepT w M x u → x.plain = some v → u = v
  | .v x, u, v, h, hv => by simp only [T.plain, Option.some.injEq] at hv; rw [← hv]; exact h
  | .sl _ _, u, v, h, hv => by simp [T.plain] at hv
  | .ifc t d, u, v, h, hv => by
    simp only [T.plain, Option.map_eq_some_iff] at hv
    obtain ⟨y, hy, rfl⟩ := hv
    obtain ⟨z, rfl, hz⟩ := h
    rw [RepT.plain d z y hz hy]
  | .agg cs, u, v, h, hv => by
    simp only [T.plain, Option.map_eq_some_iff] at hv
    obtain ⟨ys, hy, rfl⟩ := hv
    obtain ⟨vs, rfl, hz⟩ := h
    rw [← RepTs.plains cs _ ys hz hy]
theorem RepTs.plains {w : World} {M : Nat → Prop} : ∀ (cs : List T) (us vs : List Value), RepTs w M cs us → T.plains cs = some vs → us = vs
  | [], us, vs, h, hv => by simp only [T.plains, Option.some.injEq] at hv; rw [← hv]; exact h
  | c :: cs, us, vs, h, hv => by
    simp only [T.plains] at hv
    split at hv
    · rename_i x xs h1 h2
      cases hv
      obtain ⟨u, us', rfl, _, h3, h4⟩ := h
      rw [RepT.plain c u x h3 h1, RepTs.plains cs us' xs h4 h2]
    · cases hv
end
mutual
theorem Rep.plain {w : World} {M : Nat → Prop} {η : Et} : ∀ (d : D) (u v : Value), Rep w M η d u → d.plain = some v → u = v
  | .t x, u, v, h, hv => RepT.plain x u v h hv
  | .ifc t d, u, v, h, hv => by
    simp only [D.plain, Option.map_eq_some_iff] at hv
    obtain ⟨y, hy, rfl⟩ := hv
    obtain ⟨z, rfl, hz⟩ := h
    rw [Rep.plain d z y hz hy]
  | .agg cs, u, v, h, hv => by
    simp only [D.plain, Option.map_eq_some_iff] at hv
    obtain ⟨ys, hy, rfl⟩ := hv
    obtain ⟨vs, rfl, hz⟩ := h
    rw [← Reps.plains cs _ ys hz hy]
  | .bad, u, v, h, hv => by simp [D.plain] at hv
  | .tup _, u, v, h, hv => by simp [D.plain] at hv
  | .ptr _ _, u, v, h, hv => by simp [D.plain] at hv
  | .rop _, u, v, h, hv => by simp [D.plain] at hv
  | .msl _ _ _ _, u, v, h, hv => by simp [D.plain] at hv
  | .fn f [], u, v, h, hv => by
    simp only [D.plain, Option.some.injEq] at hv
    obtain ⟨vs, rfl, hz⟩ := h
    obtain ⟨l⟩ := vs
    cases l with
    | nil => exact hv
    | cons _ _ => first | cases hz | (simp [RepsA] at hz)
  | .fn _ (_ :: _), u, v, h, hv => by simp [D.plain] at hv
theorem Reps.plains {w : World} {M : Nat → Prop} {η : Et} : ∀ (cs : List D) (us vs : List Value), Reps w M η cs us → D.plains cs = some vs → us = vs
  | [], us, vs, h, hv => by simp only [D.plains, Option.some.injEq] at hv; rw [← hv]; exact h
  | c :: cs, us, vs, h, hv => by
    simp only [D.plains] at hv
    split at hv
    · rename_i x xs h1 h2
      cases hv
      obtain ⟨u, us', rfl, _, h3, h4⟩ := h
      rw [Rep.plain c u x h3 h1, Reps.plains cs us' xs h4 h2]
    · cases hv
end
section
variable {Γ : Gl} {P : Program} {o : Oper} {X : St}
/-- An operation on plain values that looks at no memory. -/
theorem spec_plain (hs : ∀ cs b, o.op ≠ .select cs b) (hρ : ∀ x ∈ o.op.operands.toList, ((ev X x).plain).isSome = true) (v : Value)
    (h : ∀ w, (execOp (fun x => ((ev X x).plain).getD undef) o).run P w = .ok (.value v) w) : OpSpec Γ P o X { val := .t (.v v) } := by
  intro E Y a w η hA hS K Q hK
  have he : execOp a.eval o = execOp (fun x => ((ev X x).plain).getD undef) o := execOp_congr o hs (fun x hx => by
    have hx' : x ∈ o.op.operands.toList := by simpa using hx
    have h1 := hS.ev x
    rw [hA.2.1 x hx'] at h1
    obtain ⟨y, hy⟩ := Option.isSome_iff_exists.1 (hρ x hx')
    rw [hy]
    exact Rep.plain _ _ _ h1 hy)
  refine wp_val (v := v) (w' := w) (by rw [he]; exact h w) (hK _ _ η ?_)
  rw [app_val]
  exact hS.put (by exact rfl) o.dst
/-- A method of a plain value behind an interface, by its function's contract. -/
theorem spec_invoke {rx : Operand} {name : String} {args : Array Operand} {tys : Array TypeId} {ty : TypeId} {v v' : Value} {f : FuncId} {r : Rec} (h : o.op = .call { callee := .invoke rx name, args := args, argTypes := tys })
    (hx : (ev X rx).plain = some (.iface ty v)) (hm : ∀ w, (method (P.types.size + Made.depth) ty v name).run P w = .ok (f, v') w) (hk : callOk P f = true)
    (hspec : OpSpec Γ P { o with op := .call { callee := .value (.func f), args := #[.const v'] ++ args, argTypes := tys } } X r) : OpSpec Γ P o X r := by
  intro E Y a w η hA hS K Q hK
  have hrx : a.eval rx = .iface ty v := by
    have h1 := hS.ev rx
    rw [hA.2.1 rx (by rw [h]; simp [Op.operands, Call.operands])] at h1
    exact Rep.plain _ _ _ h1 hx
  have hA' : Agree X Y { o with op := .call { callee := .value (.func f), args := #[.const v'] ++ args, argTypes := tys } } r := by
    refine ⟨hA.1, fun x hx' => ?_, hA.2.2⟩
    simp [Op.operands, Call.operands] at hx'
    rcases hx' with rfl | rfl | hx'
    · rfl
    · rfl
    · exact hA.2.1 x (by rw [h]; simp [Op.operands, Call.operands]; exact .inr hx')
  have h2 := hspec E Y a w η hA' hS K Q hK
  have e1 : (execOp a.eval o).run P w = .ok (.enter f (#[v'] ++ args.map a.eval)) w := by
    have hp : ((do pure (← program).types.size) : Sem Nat).run P w = .ok P.types.size w := rfl
    have h0 : (#[Value.iface ty v] ++ args.map a.eval)[0]? = some (.iface ty v) := by rw [Array.getElem?_append_left (by simp)]; rfl
    have h1 : (#[Value.iface ty v] ++ args.map a.eval).extract 1 (#[Value.iface ty v] ++ args.map a.eval).size = args.map a.eval := by
      apply Array.ext'
      simp
      exact List.take_of_length_le (by simp)
    simp only [execOp, h, resolve, Sem.run_bind, Sem.run_pure, Result.andThen_ok, invoke, hrx, h0, h1, callMethod]
    have hm' := hm w
    rw [Sem.run_bind] at *
    simp [hm', run_call hk]
  have e2 : (execOp a.eval { o with op := .call { callee := .value (.func f), args := #[.const v'] ++ args, argTypes := tys } }).run P w = .ok (.enter f (#[v'] ++ args.map a.eval)) w := by
    simp only [execOp, resolve, Act.eval, Deferred.ofValue, Sem.run_bind, Sem.run_pure, Result.andThen_ok, invoke]
    simp [Act.eval, run_call hk]
  unfold Oper.wp at h2 ⊢
  rw [e2] at h2
  rw [e1]
  exact h2
end
section
variable {Γ : Gl} {P : Program} {X : St} {ops ops' : Array Oper} {rid i : Nat} {o : Oper} {os : List Oper} {acc : List Meta} {Q : Exit → St → Prop} {K : St → List Meta → Prop} {draw : Bool}
theorem a_plain (v : Value) {X' : St} {i' : Nat} (h : wpS Γ P ops rid i' os X' [] (regK ops' false Q)) (hg : o.guard = none := by rfl)
  (hs : stepF P rid i X o = none := by (simp only [push_cast, reduceCtorEq, Nat.reduceAdd, Nat.reduceSub, Nat.reduceMul, Nat.reduceEqDiff, Nat.reduceLT, Nat.reduceLeDiff, Nat.reduceMod, Nat.reduceDiv, Int.reduceLE, Int.reduceLT, Int.reduceEq, Int.reduceToNat, Int.reduceAdd, Int.reduceSub, Int.reduceMul, Int.reduceNeg]))
  (hsel : ∀ cs b, o.op ≠ .select cs b := by (intro cs b h; cases h))
  (hr : o.op.operands.toList.all (fun x => ((ev X x).plain).isSome) = true := by kernel_rfl)
  (hv : ∀ w, (execOp (fun x => ((ev X x).plain).getD undef) o).run P w = .ok (.value v) w := by (intro w; kernel_rfl))
  (hX : X.app o.dst { val := .t (.v v) } = X' := by (simp only [push_cast, reduceCtorEq, Nat.reduceAdd, Nat.reduceEqDiff] <;> rfl))
  (hi : i + 1 = i' := by (simp only [Nat.reduceAdd] <;> rfl)) : wpS Γ P ops rid i (o :: os) X [] (regK ops' false Q) := s_by0 hg hs (spec_plain hsel (fun x hx => List.all_eq_true.1 hr x hx) v hv) (fun _ => rfl) hX hi h
theorem a_plaingo {gi : Nat} {want : Bool} (v : Value) {X' : St} {i' : Nat} (h : wpS Γ P ops rid i' os X' [] (regK ops' false Q)) (hg : o.guard = some (gi, want) := by rfl)
  (hb : wantIs (gslot ops X gi) want = some true := by (simp only [gslot, Option.bind_some, push_cast, reduceCtorEq, Nat.reduceAdd, Nat.reduceSub, Nat.reduceMul, Nat.reduceEqDiff, Nat.reduceLT, Nat.reduceLeDiff, Nat.reduceMod, Nat.reduceDiv, Int.reduceLE, Int.reduceLT, Int.reduceEq, Int.reduceToNat, Int.reduceAdd, Int.reduceSub, Int.reduceMul, Int.reduceNeg] <;> rfl))
  (hs : stepF P rid i X o = none := by (simp only [push_cast, reduceCtorEq, Nat.reduceAdd, Nat.reduceSub, Nat.reduceMul, Nat.reduceEqDiff, Nat.reduceLT, Nat.reduceLeDiff, Nat.reduceMod, Nat.reduceDiv, Int.reduceLE, Int.reduceLT, Int.reduceEq, Int.reduceToNat, Int.reduceAdd, Int.reduceSub, Int.reduceMul, Int.reduceNeg]))
  (hsel : ∀ cs b, o.op ≠ .select cs b := by (intro cs b h; cases h))
  (hr : o.op.operands.toList.all (fun x => ((ev X x).plain).isSome) = true := by kernel_rfl)
  (hv : ∀ w, (execOp (fun x => ((ev X x).plain).getD undef) o).run P w = .ok (.value v) w := by (intro w; kernel_rfl))
  (hX : X.app o.dst { val := .t (.v v) } = X' := by (simp only [push_cast, reduceCtorEq, Nat.reduceAdd, Nat.reduceEqDiff] <;> rfl))
  (hi : i + 1 = i' := by (simp only [Nat.reduceAdd] <;> rfl)) : wpS Γ P ops rid i (o :: os) X [] (regK ops' false Q) := s_by_if0 hg hb hs (spec_plain hsel (fun x hx => List.all_eq_true.1 hr x hx) v hv) (fun _ => rfl) hX hi h
theorem a_invoke {rx : Operand} {name : String} {args : Array Operand} {tys : Array TypeId} {ty : TypeId} {v v' : Value} {f : FuncId} {cargs : List D} {r : D} {ns : List Ob} {X' : St} {i' : Nat} (len : List Nm) (sh : Bool) (hG : Good Γ P f cargs [] r [] ns) (h : wpS Γ P ops rid i' os X' [] (regK ops' false Q)) (hx : (ev X rx).plain = some (.iface ty v)) (hm1 : ∀ w, (method (P.types.size + Made.depth) ty v name).run P w = .ok (f, v') w) (hg : o.guard = none := by rfl)
  (ho : o.op = .call { callee := .invoke rx name, args := args, argTypes := tys } := by rfl)
  (hs : stepF P rid i X o = none := by (simp only [stepF, callF]))
  (hk : callOk P f = true := by (simp only [push_cast]))
  (hv : VwL (fun _ => none) X.hp (· ∈ len) cargs ((#[Operand.const v'] ++ args).toList.map (ev X) ++ []) := by (first | ((try simp (disch := first | omega | (simp only [List.length_drop, List.length_take, List.length_map, List.length_append, List.length_cons, List.length_nil, List.length_replicate, List.length_set] <;> omega) | (simp only [push_cast] <;> omega) | fail) only [push_cast, reduceCtorEq, Nat.reduceAdd, Nat.reduceSub, Nat.reduceMul, Nat.reduceEqDiff, Nat.reduceLT, Nat.reduceLeDiff, Nat.reduceMod, Nat.reduceDiv, Int.reduceLE, Int.reduceLT, Int.reduceEq, Int.reduceToNat, Int.reduceAdd, Int.reduceSub, Int.reduceMul, Int.reduceNeg]); (repeat' (first | exact Vw_self | exact VwL_n | refine VwL_c ?_ ?_ | refine Vw_a ?_)); done) | (simp [-List.map_map, -List.map_drop, -List.map_take, ev, evc, mkS, push_cast, List.take_of_length_le] <;> (try simp only [List.length_drop, List.length_take, List.length_map, List.length_append, List.length_cons, List.length_nil, List.length_replicate, List.length_set]) <;> (try omega))))
  (hlex : ∀ m ∈ len, X.hp m ≠ none := by (simp [Go.Ot.look]))
  (hnew : ∀ k, k < ns.length → X.hp (.r rid i k) = none := by (simp [Go.Ot.look]))
  (hsh : sh = false → r.flat = true ∧ (∀ ob ∈ ns, D.flatL ob.cells = true) := by (simp [-List.map_map, -List.map_drop, -List.map_take, D.flat, D.flatL, T.flat, T.flatL, flatL_map_t, push_cast]))
  (hX : X.app o.dst (callRec X [] r [] ns rid i sh len []) = X' := by (simp only [push_cast, reduceCtorEq, Nat.reduceAdd, Nat.reduceEqDiff] <;> rfl))
  (hi : i + 1 = i' := by (simp only [Nat.reduceAdd] <;> rfl)) : wpS Γ P ops rid i (o :: os) X [] (regK ops' false Q) :=
  s_by0 hg hs (spec_invoke ho hx hm1 hk (spec_call0 (.func f) (#[Operand.const v'] ++ args) tys rfl rfl hk len hG hv hlex rid i hnew sh hsh)) (fun _ => rfl) hX hi h
theorem a_plaind (v : Value) {X' : St} {ms : Meta} {i' : Nat} (h : wpS Γ P ops rid i' os X' (acc ++ [ms]) (regK ops' draw Q)) (hg : o.guard = none := by rfl)
  (hs : stepF P rid i X o = none := by (simp only [push_cast, reduceCtorEq, Nat.reduceAdd, Nat.reduceSub, Nat.reduceMul, Nat.reduceEqDiff, Nat.reduceLT, Nat.reduceLeDiff, Nat.reduceMod, Nat.reduceDiv, Int.reduceLE, Int.reduceLT, Int.reduceEq, Int.reduceToNat, Int.reduceAdd, Int.reduceSub, Int.reduceMul, Int.reduceNeg]))
  (hsel : ∀ cs b, o.op ≠ .select cs b := by (intro cs b h; cases h))
  (hr : o.op.operands.toList.all (fun x => ((ev X x).plain).isSome) = true := by kernel_rfl)
  (hv : ∀ w, (execOp (fun x => ((ev X x).plain).getD undef) o).run P w = .ok (.value v) w := by (intro w; kernel_rfl))
  (hX : X.app o.dst { val := .t (.v v) } = X' := by (simp only [push_cast, reduceCtorEq, Nat.reduceAdd, Nat.reduceEqDiff] <;> rfl))
  (hm : (Rec.info { val := .t (.v v) }) = ms := by (simp only [Rec.info, push_cast, reduceCtorEq, Nat.reduceAdd, Nat.reduceEqDiff] <;> rfl))
  (hi : i + 1 = i' := by (simp only [Nat.reduceAdd] <;> rfl)) : wpS Γ P ops rid i (o :: os) X acc (regK ops' draw Q) := s_by hg hs (spec_plain hsel (fun x hx => List.all_eq_true.1 hr x hx) v hv) (fun _ => rfl) hX hm hi h
theorem a_plaingod {gi : Nat} {want : Bool} (v : Value) {X' : St} {ms : Meta} {i' : Nat} (h : wpS Γ P ops rid i' os X' (acc ++ [ms]) (regK ops' draw Q)) (hg : o.guard = some (gi, want) := by rfl)
  (hb : wantIs (gslot ops X gi) want = some true := by (simp only [gslot, Option.bind_some, push_cast, reduceCtorEq, Nat.reduceAdd, Nat.reduceSub, Nat.reduceMul, Nat.reduceEqDiff, Nat.reduceLT, Nat.reduceLeDiff, Nat.reduceMod, Nat.reduceDiv, Int.reduceLE, Int.reduceLT, Int.reduceEq, Int.reduceToNat, Int.reduceAdd, Int.reduceSub, Int.reduceMul, Int.reduceNeg] <;> rfl))
  (hs : stepF P rid i X o = none := by (simp only [push_cast, reduceCtorEq, Nat.reduceAdd, Nat.reduceSub, Nat.reduceMul, Nat.reduceEqDiff, Nat.reduceLT, Nat.reduceLeDiff, Nat.reduceMod, Nat.reduceDiv, Int.reduceLE, Int.reduceLT, Int.reduceEq, Int.reduceToNat, Int.reduceAdd, Int.reduceSub, Int.reduceMul, Int.reduceNeg]))
  (hsel : ∀ cs b, o.op ≠ .select cs b := by (intro cs b h; cases h))
  (hr : o.op.operands.toList.all (fun x => ((ev X x).plain).isSome) = true := by kernel_rfl)
  (hv : ∀ w, (execOp (fun x => ((ev X x).plain).getD undef) o).run P w = .ok (.value v) w := by (intro w; kernel_rfl))
  (hX : X.app o.dst { val := .t (.v v) } = X' := by (simp only [push_cast, reduceCtorEq, Nat.reduceAdd, Nat.reduceEqDiff] <;> rfl))
  (hm : (Rec.info { val := .t (.v v) }) = ms := by (simp only [Rec.info, push_cast, reduceCtorEq, Nat.reduceAdd, Nat.reduceEqDiff] <;> rfl))
  (hi : i + 1 = i' := by (simp only [Nat.reduceAdd] <;> rfl)) : wpS Γ P ops rid i (o :: os) X acc (regK ops' draw Q) := s_by_if hg hb hs (spec_plain hsel (fun x hx => List.all_eq_true.1 hr x hx) v hv) (fun _ => rfl) hX hm hi h
theorem a_invoked {rx : Operand} {name : String} {args : Array Operand} {tys : Array TypeId} {ty : TypeId} {v v' : Value} {f : FuncId} {cargs : List D} {r : D} {ns : List Ob} {X' : St} {ms : Meta} {i' : Nat} (len : List Nm) (sh : Bool) (hG : Good Γ P f cargs [] r [] ns) (h : wpS Γ P ops rid i' os X' (acc ++ [ms]) (regK ops' draw Q)) (hx : (ev X rx).plain = some (.iface ty v)) (hm1 : ∀ w, (method (P.types.size + Made.depth) ty v name).run P w = .ok (f, v') w) (hg : o.guard = none := by rfl)
  (ho : o.op = .call { callee := .invoke rx name, args := args, argTypes := tys } := by rfl)
  (hs : stepF P rid i X o = none := by (simp only [stepF, callF]))
  (hk : callOk P f = true := by (simp only [push_cast]))
  (hv : VwL (fun _ => none) X.hp (· ∈ len) cargs ((#[Operand.const v'] ++ args).toList.map (ev X) ++ []) := by (first | ((try simp (disch := first | omega | (simp only [List.length_drop, List.length_take, List.length_map, List.length_append, List.length_cons, List.length_nil, List.length_replicate, List.length_set] <;> omega) | (simp only [push_cast] <;> omega) | fail) only [push_cast, reduceCtorEq, Nat.reduceAdd, Nat.reduceSub, Nat.reduceMul, Nat.reduceEqDiff, Nat.reduceLT, Nat.reduceLeDiff, Nat.reduceMod, Nat.reduceDiv, Int.reduceLE, Int.reduceLT, Int.reduceEq, Int.reduceToNat, Int.reduceAdd, Int.reduceSub, Int.reduceMul, Int.reduceNeg]); (repeat' (first | exact Vw_self | exact VwL_n | refine VwL_c ?_ ?_ | refine Vw_a ?_)); done) | (simp [-List.map_map, -List.map_drop, -List.map_take, ev, evc, mkS, push_cast, List.take_of_length_le] <;> (try simp only [List.length_drop, List.length_take, List.length_map, List.length_append, List.length_cons, List.length_nil, List.length_replicate, List.length_set]) <;> (try omega))))
  (hlex : ∀ m ∈ len, X.hp m ≠ none := by (simp [Go.Ot.look]))
  (hnew : ∀ k, k < ns.length → X.hp (.r rid i k) = none := by (simp [Go.Ot.look]))
  (hsh : sh = false → r.flat = true ∧ (∀ ob ∈ ns, D.flatL ob.cells = true) := by (simp [-List.map_map, -List.map_drop, -List.map_take, D.flat, D.flatL, T.flat, T.flatL, flatL_map_t, push_cast]))
  (hX : X.app o.dst (callRec X [] r [] ns rid i sh len []) = X' := by (simp only [push_cast, reduceCtorEq, Nat.reduceAdd, Nat.reduceEqDiff] <;> rfl))
  (hm : (Rec.info (callRec X [] r [] ns rid i sh len [])) = ms := by (simp only [Rec.info, push_cast, reduceCtorEq, Nat.reduceAdd, Nat.reduceEqDiff] <;> rfl))
  (hi : i + 1 = i' := by (simp only [Nat.reduceAdd] <;> rfl)) : wpS Γ P ops rid i (o :: os) X acc (regK ops' draw Q) :=
  s_by hg hs (spec_invoke ho hx hm1 hk (spec_call0 (.func f) (#[Operand.const v'] ++ args) tys rfl rfl hk len hG hv hlex rid i hnew sh hsh)) (fun _ => rfl) hX hm hi h
end
section
variable {Γ : Gl} {P : Program} {X : St} {ops ops' : Array Oper} {rid i : Nat} {o : Oper} {os : List Oper} {acc : List Meta} {Q : Exit → St → Prop} {K : St → List Meta → Prop} {draw : Bool}
theorem spec_assert {x : Operand} {xT t : TypeId} {c : Bool} {u res : Value} (h : o.op = .typeAssert x xT t c) (hx : (ev X x).plain = some u) (hr : ∀ w, (Instr.typeAssert u xT t c).run P w = .ok res w) : OpSpec Γ P o X { val := .t (.v res) } := by
  refine spec_plain (by intro cs b e; rw [h] at e; cases e) (fun y hy => ?_) res (fun w => ?_)
  · rw [h] at hy
    simp [Op.operands] at hy
    subst hy
    rw [hx]; rfl
  · simp only [execOp, h, hx, Option.getD_some, Sem.run_bind, hr w, Result.andThen_ok, Sem.run_pure]
theorem spec_eqv {op : BinOp} {t ty : TypeId} {x y : Operand} {u v res : Value} (h : o.op = .binOp op t x y ty) (hx : (ev X x).plain = some u) (hy : (ev X y).plain = some v) (hn : ¬ (u = .nilIface ∧ v = .nilIface)) (h2 : ∀ c d, u = .agg c → v = .agg d → False) (hr : ∀ w, (binOp op t u v).run P w = .ok res w) : OpSpec Γ P o X { val := .t (.v res) } := by
  refine spec_plain (by intro cs b e; rw [h] at e; cases e) (fun z hz => ?_) res (fun w => ?_)
  · rw [h] at hz
    simp [Op.operands] at hz
    rcases hz with rfl | rfl
    · rw [hx]; rfl
    · rw [hy]; rfl
  · simp only [execOp, h, hx, hy, Option.getD_some, Sem.run_bind, run_fst hn h2, hr w, Result.andThen_ok, Sem.run_pure]
theorem a_assert {x : Operand} {xT t : TypeId} {c : Bool} (u res : Value) {X' : St} {i' : Nat} (h : wpS Γ P ops rid i' os X' [] (regK ops' false Q)) (hr : ∀ w, (Instr.typeAssert u xT t c).run P w = .ok res w) (hg : o.guard = none := by rfl)
  (ho : o.op = .typeAssert x xT t c := by rfl)
  (hs : stepF P rid i X o = none := by (simp only [push_cast, reduceCtorEq, Nat.reduceAdd, Nat.reduceSub, Nat.reduceMul, Nat.reduceEqDiff, Nat.reduceLT, Nat.reduceLeDiff, Nat.reduceMod, Nat.reduceDiv, Int.reduceLE, Int.reduceLT, Int.reduceEq, Int.reduceToNat, Int.reduceAdd, Int.reduceSub, Int.reduceMul, Int.reduceNeg]))
  (hx : (ev X x).plain = some u := by rfl)
  (hX : X.app o.dst { val := .t (.v res) } = X' := by (simp only [push_cast, reduceCtorEq, Nat.reduceAdd, Nat.reduceEqDiff] <;> rfl))
  (hi : i + 1 = i' := by (simp only [Nat.reduceAdd] <;> rfl)) : wpS Γ P ops rid i (o :: os) X [] (regK ops' false Q) := s_by0 hg hs (spec_assert ho hx hr) (fun _ => rfl) hX hi h
theorem a_eqv {op : BinOp} {t ty : TypeId} {x y : Operand} {u v : Value} (res : Value) {X' : St} {i' : Nat} (h : wpS Γ P ops rid i' os X' [] (regK ops' false Q)) (hr : ∀ w, (binOp op t u v).run P w = .ok res w) (hg : o.guard = none := by rfl)
  (ho : o.op = .binOp op t x y ty := by rfl)
  (hs : stepF P rid i X o = none := by (simp only [push_cast, reduceCtorEq, Nat.reduceAdd, Nat.reduceSub, Nat.reduceMul, Nat.reduceEqDiff, Nat.reduceLT, Nat.reduceLeDiff, Nat.reduceMod, Nat.reduceDiv, Int.reduceLE, Int.reduceLT, Int.reduceEq, Int.reduceToNat, Int.reduceAdd, Int.reduceSub, Int.reduceMul, Int.reduceNeg]))
  (hx : (ev X x).plain = some u := by rfl)
  (hy : (ev X y).plain = some v := by rfl)
  (hn : ¬ (u = .nilIface ∧ v = .nilIface) := by (rintro ⟨h, _⟩; cases h))
  (h2 : ∀ c d, u = .agg c → v = .agg d → False := by (intro c d h; cases h))
  (hX : X.app o.dst { val := .t (.v res) } = X' := by (simp only [push_cast, reduceCtorEq, Nat.reduceAdd, Nat.reduceEqDiff] <;> rfl))
  (hi : i + 1 = i' := by (simp only [Nat.reduceAdd] <;> rfl)) : wpS Γ P ops rid i (o :: os) X [] (regK ops' false Q) := s_by0 hg hs (spec_eqv ho hx hy hn h2 hr) (fun _ => rfl) hX hi h
theorem a_assertgo {gi : Nat} {want : Bool} {x : Operand} {xT t : TypeId} {c : Bool} (u res : Value) {X' : St} {i' : Nat} (h : wpS Γ P ops rid i' os X' [] (regK ops' false Q)) (hr : ∀ w, (Instr.typeAssert u xT t c).run P w = .ok res w) (hg : o.guard = some (gi, want) := by rfl)
  (hb : wantIs (gslot ops X gi) want = some true := by (simp only [gslot, Option.bind_some, push_cast, reduceCtorEq, Nat.reduceAdd, Nat.reduceSub, Nat.reduceMul, Nat.reduceEqDiff, Nat.reduceLT, Nat.reduceLeDiff, Nat.reduceMod, Nat.reduceDiv, Int.reduceLE, Int.reduceLT, Int.reduceEq, Int.reduceToNat, Int.reduceAdd, Int.reduceSub, Int.reduceMul, Int.reduceNeg] <;> rfl))
  (ho : o.op = .typeAssert x xT t c := by rfl)
  (hs : stepF P rid i X o = none := by (simp only [push_cast, reduceCtorEq, Nat.reduceAdd, Nat.reduceSub, Nat.reduceMul, Nat.reduceEqDiff, Nat.reduceLT, Nat.reduceLeDiff, Nat.reduceMod, Nat.reduceDiv, Int.reduceLE, Int.reduceLT, Int.reduceEq, Int.reduceToNat, Int.reduceAdd, Int.reduceSub, Int.reduceMul, Int.reduceNeg]))
  (hx : (ev X x).plain = some u := by rfl)
  (hX : X.app o.dst { val := .t (.v res) } = X' := by (simp only [push_cast, reduceCtorEq, Nat.reduceAdd, Nat.reduceEqDiff] <;> rfl))
  (hi : i + 1 = i' := by (simp only [Nat.reduceAdd] <;> rfl)) : wpS Γ P ops rid i (o :: os) X [] (regK ops' false Q) := s_by_if0 hg hb hs (spec_assert ho hx hr) (fun _ => rfl) hX hi h
theorem a_eqvgo {gi : Nat} {want : Bool} {op : BinOp} {t ty : TypeId} {x y : Operand} {u v : Value} (res : Value) {X' : St} {i' : Nat} (h : wpS Γ P ops rid i' os X' [] (regK ops' false Q)) (hr : ∀ w, (binOp op t u v).run P w = .ok res w) (hg : o.guard = some (gi, want) := by rfl)
  (hb : wantIs (gslot ops X gi) want = some true := by (simp only [gslot, Option.bind_some, push_cast, reduceCtorEq, Nat.reduceAdd, Nat.reduceSub, Nat.reduceMul, Nat.reduceEqDiff, Nat.reduceLT, Nat.reduceLeDiff, Nat.reduceMod, Nat.reduceDiv, Int.reduceLE, Int.reduceLT, Int.reduceEq, Int.reduceToNat, Int.reduceAdd, Int.reduceSub, Int.reduceMul, Int.reduceNeg] <;> rfl))
  (ho : o.op = .binOp op t x y ty := by rfl)
  (hs : stepF P rid i X o = none := by (simp only [push_cast, reduceCtorEq, Nat.reduceAdd, Nat.reduceSub, Nat.reduceMul, Nat.reduceEqDiff, Nat.reduceLT, Nat.reduceLeDiff, Nat.reduceMod, Nat.reduceDiv, Int.reduceLE, Int.reduceLT, Int.reduceEq, Int.reduceToNat, Int.reduceAdd, Int.reduceSub, Int.reduceMul, Int.reduceNeg]))
  (hx : (ev X x).plain = some u := by rfl)
  (hy : (ev X y).plain = some v := by rfl)
  (hn : ¬ (u = .nilIface ∧ v = .nilIface) := by (rintro ⟨h, _⟩; cases h))
  (h2 : ∀ c d, u = .agg c → v = .agg d → False := by (intro c d h; cases h))
  (hX : X.app o.dst { val := .t (.v res) } = X' := by (simp only [push_cast, reduceCtorEq, Nat.reduceAdd, Nat.reduceEqDiff] <;> rfl))
  (hi : i + 1 = i' := by (simp only [Nat.reduceAdd] <;> rfl)) : wpS Γ P ops rid i (o :: os) X [] (regK ops' false Q) := s_by_if0 hg hb hs (spec_eqv ho hx hy hn h2 hr) (fun _ => rfl) hX hi h
theorem a_assertd {x : Operand} {xT t : TypeId} {c : Bool} (u res : Value) {X' : St} {ms : Meta} {i' : Nat} (h : wpS Γ P ops rid i' os X' (acc ++ [ms]) (regK ops' draw Q)) (hr : ∀ w, (Instr.typeAssert u xT t c).run P w = .ok res w) (hg : o.guard = none := by rfl)
  (ho : o.op = .typeAssert x xT t c := by rfl)
  (hs : stepF P rid i X o = none := by (simp only [push_cast, reduceCtorEq, Nat.reduceAdd, Nat.reduceSub, Nat.reduceMul, Nat.reduceEqDiff, Nat.reduceLT, Nat.reduceLeDiff, Nat.reduceMod, Nat.reduceDiv, Int.reduceLE, Int.reduceLT, Int.reduceEq, Int.reduceToNat, Int.reduceAdd, Int.reduceSub, Int.reduceMul, Int.reduceNeg]))
  (hx : (ev X x).plain = some u := by rfl)
  (hX : X.app o.dst { val := .t (.v res) } = X' := by (simp only [push_cast, reduceCtorEq, Nat.reduceAdd, Nat.reduceEqDiff] <;> rfl))
  (hm : (Rec.info { val := .t (.v res) }) = ms := by (simp only [Rec.info, push_cast, reduceCtorEq, Nat.reduceAdd, Nat.reduceEqDiff] <;> rfl))
  (hi : i + 1 = i' := by (simp only [Nat.reduceAdd] <;> rfl)) : wpS Γ P ops rid i (o :: os) X acc (regK ops' draw Q) := s_by hg hs (spec_assert ho hx hr) (fun _ => rfl) hX hm hi h
theorem a_eqvd {op : BinOp} {t ty : TypeId} {x y : Operand} {u v : Value} (res : Value) {X' : St} {ms : Meta} {i' : Nat} (h : wpS Γ P ops rid i' os X' (acc ++ [ms]) (regK ops' draw Q)) (hr : ∀ w, (binOp op t u v).run P w = .ok res w) (hg : o.guard = none := by rfl)
  (ho : o.op = .binOp op t x y ty := by rfl)
  (hs : stepF P rid i X o = none := by (simp only [push_cast, reduceCtorEq, Nat.reduceAdd, Nat.reduceSub, Nat.reduceMul, Nat.reduceEqDiff, Nat.reduceLT, Nat.reduceLeDiff, Nat.reduceMod, Nat.reduceDiv, Int.reduceLE, Int.reduceLT, Int.reduceEq, Int.reduceToNat, Int.reduceAdd, Int.reduceSub, Int.reduceMul, Int.reduceNeg]))
  (hx : (ev X x).plain = some u := by rfl)
  (hy : (ev X y).plain = some v := by rfl)
  (hn : ¬ (u = .nilIface ∧ v = .nilIface) := by (rintro ⟨h, _⟩; cases h))
  (h2 : ∀ c d, u = .agg c → v = .agg d → False := by (intro c d h; cases h))
  (hX : X.app o.dst { val := .t (.v res) } = X' := by (simp only [push_cast, reduceCtorEq, Nat.reduceAdd, Nat.reduceEqDiff] <;> rfl))
  (hm : (Rec.info { val := .t (.v res) }) = ms := by (simp only [Rec.info, push_cast, reduceCtorEq, Nat.reduceAdd, Nat.reduceEqDiff] <;> rfl))
  (hi : i + 1 = i' := by (simp only [Nat.reduceAdd] <;> rfl)) : wpS Γ P ops rid i (o :: os) X acc (regK ops' draw Q) := s_by hg hs (spec_eqv ho hx hy hn h2 hr) (fun _ => rfl) hX hm hi h
theorem a_assertgod {gi : Nat} {want : Bool} {x : Operand} {xT t : TypeId} {c : Bool} (u res : Value) {X' : St} {ms : Meta} {i' : Nat} (h : wpS Γ P ops rid i' os X' (acc ++ [ms]) (regK ops' draw Q)) (hr : ∀ w, (Instr.typeAssert u xT t c).run P w = .ok res w) (hg : o.guard = some (gi, want) := by rfl)
  (hb : wantIs (gslot ops X gi) want = some true := by (simp only [gslot, Option.bind_some, push_cast, reduceCtorEq, Nat.reduceAdd, Nat.reduceSub, Nat.reduceMul, Nat.reduceEqDiff, Nat.reduceLT, Nat.reduceLeDiff, Nat.reduceMod, Nat.reduceDiv, Int.reduceLE, Int.reduceLT, Int.reduceEq, Int.reduceToNat, Int.reduceAdd, Int.reduceSub, Int.reduceMul, Int.reduceNeg] <;> rfl))
  (ho : o.op = .typeAssert x xT t c := by rfl)
  (hs : stepF P rid i X o = none := by (simp only [push_cast, reduceCtorEq, Nat.reduceAdd, Nat.reduceSub, Nat.reduceMul, Nat.reduceEqDiff, Nat.reduceLT, Nat.reduceLeDiff, Nat.reduceMod, Nat.reduceDiv, Int.reduceLE, Int.reduceLT, Int.reduceEq, Int.reduceToNat, Int.reduceAdd, Int.reduceSub, Int.reduceMul, Int.reduceNeg]))
  (hx : (ev X x).plain = some u := by rfl)
  (hX : X.app o.dst { val := .t (.v res) } = X' := by (simp only [push_cast, reduceCtorEq, Nat.reduceAdd, Nat.reduceEqDiff] <;> rfl))
  (hm : (Rec.info { val := .t (.v res) }) = ms := by (simp only [Rec.info, push_cast, reduceCtorEq, Nat.reduceAdd, Nat.reduceEqDiff] <;> rfl))
  (hi : i + 1 = i' := by (simp only [Nat.reduceAdd] <;> rfl)) : wpS Γ P ops rid i (o :: os) X acc (regK ops' draw Q) := s_by_if hg hb hs (spec_assert ho hx hr) (fun _ => rfl) hX hm hi h
theorem a_eqvgod {gi : Nat} {want : Bool} {op : BinOp} {t ty : TypeId} {x y : Operand} {u v : Value} (res : Value) {X' : St} {ms : Meta} {i' : Nat} (h : wpS Γ P ops rid i' os X' (acc ++ [ms]) (regK ops' draw Q)) (hr : ∀ w, (binOp op t u v).run P w = .ok res w) (hg : o.guard = some (gi, want) := by rfl)
  (hb : wantIs (gslot ops X gi) want = some true := by (simp only [gslot, Option.bind_some, push_cast, reduceCtorEq, Nat.reduceAdd, Nat.reduceSub, Nat.reduceMul, Nat.reduceEqDiff, Nat.reduceLT, Nat.reduceLeDiff, Nat.reduceMod, Nat.reduceDiv, Int.reduceLE, Int.reduceLT, Int.reduceEq, Int.reduceToNat, Int.reduceAdd, Int.reduceSub, Int.reduceMul, Int.reduceNeg] <;> rfl))
  (ho : o.op = .binOp op t x y ty := by rfl)
  (hs : stepF P rid i X o = none := by (simp only [push_cast, reduceCtorEq, Nat.reduceAdd, Nat.reduceSub, Nat.reduceMul, Nat.reduceEqDiff, Nat.reduceLT, Nat.reduceLeDiff, Nat.reduceMod, Nat.reduceDiv, Int.reduceLE, Int.reduceLT, Int.reduceEq, Int.reduceToNat, Int.reduceAdd, Int.reduceSub, Int.reduceMul, Int.reduceNeg]))
  (hx : (ev X x).plain = some u := by rfl)
  (hy : (ev X y).plain = some v := by rfl)
  (hn : ¬ (u = .nilIface ∧ v = .nilIface) := by (rintro ⟨h, _⟩; cases h))
  (h2 : ∀ c d, u = .agg c → v = .agg d → False := by (intro c d h; cases h))
  (hX : X.app o.dst { val := .t (.v res) } = X' := by (simp only [push_cast, reduceCtorEq, Nat.reduceAdd, Nat.reduceEqDiff] <;> rfl))
  (hm : (Rec.info { val := .t (.v res) }) = ms := by (simp only [Rec.info, push_cast, reduceCtorEq, Nat.reduceAdd, Nat.reduceEqDiff] <;> rfl))
  (hi : i + 1 = i' := by (simp only [Nat.reduceAdd] <;> rfl)) : wpS Γ P ops rid i (o :: os) X acc (regK ops' draw Q) := s_by_if hg hb hs (spec_eqv ho hx hy hn h2 hr) (fun _ => rfl) hX hm hi h
end

section
variable {Γ : Gl} {P : Program} {X : St} {ops ops' : Array Oper} {rid i : Nat} {o : Oper} {os : List Oper} {acc : List Meta} {Q : Exit → St → Prop} {K : St → List Meta → Prop} {draw : Bool}
/-- A call of a function without a body (an external), by what it gives. -/
theorem spec_ext {f : FuncId} {args : Array Operand} {tys : Array TypeId} (us : Array Value) {res : Value} (h : o.op = .call { callee := .value (.func f), args := args, argTypes := tys })
    (hp : args.toList.all (fun x => ((ev X x).plain).isSome) = true) (hu : args.map (fun x => ((ev X x).plain).getD undef) = us) (hr : ∀ w, (callFunc f us).run P w = .ok (.value res) w) : OpSpec Γ P o X { val := .t (.v res) } := by
  have hf : (fun x => ((ev X x).plain).getD undef) (.func f) = .func (.func f) #[] #[] := rfl
  refine spec_plain (by intro cs b e; rw [h] at e; cases e) (fun z hz => ?_) res (fun w => ?_)
  · rw [h] at hz
    simp [Op.operands, Call.operands] at hz
    rcases hz with rfl | hz
    · rfl
    · exact List.all_eq_true.1 hp z (by simpa using hz)
  · simp only [execOp, h, resolve, hf, hu, Deferred.ofValue, Sem.run_bind, Sem.run_pure, Result.andThen_ok, invoke]
    simp [hr]
/-- A method of a plain value behind an interface that is an external. -/
theorem spec_extm {rx : Operand} {name : String} {tys : Array TypeId} {ty : TypeId} {v v' : Value} {f : FuncId} {res : Value} (h : o.op = .call { callee := .invoke rx name, args := #[], argTypes := tys })
    (hx : (ev X rx).plain = some (.iface ty v)) (hm : ∀ w, (method (P.types.size + Made.depth) ty v name).run P w = .ok (f, v') w) (hr : ∀ w, (callFunc f #[v']).run P w = .ok (.value res) w) : OpSpec Γ P o X { val := .t (.v res) } := by
  refine spec_plain (by intro cs b e; rw [h] at e; cases e) (fun z hz => ?_) res (fun w => ?_)
  · rw [h] at hz
    simp [Op.operands, Call.operands] at hz
    rw [hz, hx]; rfl
  · simp only [execOp, h, resolve, hx, Option.getD_some, Sem.run_bind, Sem.run_pure, Result.andThen_ok, invoke, callMethod]
    have hm' := hm w
    have hp : (do pure (← program) : Sem Program).run P w = .ok P w := rfl
    simp [hm', hr]
theorem a_ext {f : FuncId} {args : Array Operand} {tys : Array TypeId} (us : Array Value) (res : Value) {X' : St} {i' : Nat} (h : wpS Γ P ops rid i' os X' [] (regK ops' false Q)) (hr : ∀ w, (callFunc f us).run P w = .ok (.value res) w) (hg : o.guard = none := by rfl)
  (ho : o.op = .call { callee := .value (.func f), args := args, argTypes := tys } := by rfl)
  (hp : args.toList.all (fun x => ((ev X x).plain).isSome) = true := by kernel_rfl)
  (hu : args.map (fun x => ((ev X x).plain).getD undef) = us := by kernel_rfl)
  (hs : stepF P rid i X o = none := by (first | (simp only [push_cast, reduceCtorEq, Nat.reduceAdd, Nat.reduceSub, Nat.reduceMul, Nat.reduceEqDiff, Nat.reduceLT, Nat.reduceLeDiff, Nat.reduceMod, Nat.reduceDiv, Int.reduceLE, Int.reduceLT, Int.reduceEq, Int.reduceToNat, Int.reduceAdd, Int.reduceSub, Int.reduceMul, Int.reduceNeg]) | (simp only [stepF, callF])))
  (hX : X.app o.dst { val := .t (.v res) } = X' := by (simp only [push_cast, reduceCtorEq, Nat.reduceAdd, Nat.reduceEqDiff] <;> rfl))
  (hi : i + 1 = i' := by (simp only [Nat.reduceAdd] <;> rfl)) : wpS Γ P ops rid i (o :: os) X [] (regK ops' false Q) := s_by0 hg hs (spec_ext us ho hp hu hr) (fun _ => rfl) hX hi h
theorem a_extd {f : FuncId} {args : Array Operand} {tys : Array TypeId} (us : Array Value) (res : Value) {X' : St} {ms : Meta} {i' : Nat} (h : wpS Γ P ops rid i' os X' (acc ++ [ms]) (regK ops' draw Q)) (hr : ∀ w, (callFunc f us).run P w = .ok (.value res) w) (hg : o.guard = none := by rfl)
  (ho : o.op = .call { callee := .value (.func f), args := args, argTypes := tys } := by rfl)
  (hp : args.toList.all (fun x => ((ev X x).plain).isSome) = true := by kernel_rfl)
  (hu : args.map (fun x => ((ev X x).plain).getD undef) = us := by kernel_rfl)
  (hs : stepF P rid i X o = none := by (first | (simp only [push_cast, reduceCtorEq, Nat.reduceAdd, Nat.reduceSub, Nat.reduceMul, Nat.reduceEqDiff, Nat.reduceLT, Nat.reduceLeDiff, Nat.reduceMod, Nat.reduceDiv, Int.reduceLE, Int.reduceLT, Int.reduceEq, Int.reduceToNat, Int.reduceAdd, Int.reduceSub, Int.reduceMul, Int.reduceNeg]) | (simp only [stepF, callF])))
  (hX : X.app o.dst { val := .t (.v res) } = X' := by (simp only [push_cast, reduceCtorEq, Nat.reduceAdd, Nat.reduceEqDiff] <;> rfl))
  (hm : (Rec.info { val := .t (.v res) }) = ms := by (simp only [Rec.info, push_cast, reduceCtorEq, Nat.reduceAdd, Nat.reduceEqDiff] <;> rfl))
  (hi : i + 1 = i' := by (simp only [Nat.reduceAdd] <;> rfl)) : wpS Γ P ops rid i (o :: os) X acc (regK ops' draw Q) := s_by hg hs (spec_ext us ho hp hu hr) (fun _ => rfl) hX hm hi h
theorem a_extgo {gi : Nat} {want : Bool} {f : FuncId} {args : Array Operand} {tys : Array TypeId} (us : Array Value) (res : Value) {X' : St} {i' : Nat} (h : wpS Γ P ops rid i' os X' [] (regK ops' false Q)) (hr : ∀ w, (callFunc f us).run P w = .ok (.value res) w) (hg : o.guard = some (gi, want) := by rfl)
  (hb : wantIs (gslot ops X gi) want = some true := by (simp only [gslot, Option.bind_some, push_cast, reduceCtorEq, Nat.reduceAdd, Nat.reduceSub, Nat.reduceMul, Nat.reduceEqDiff, Nat.reduceLT, Nat.reduceLeDiff, Nat.reduceMod, Nat.reduceDiv, Int.reduceLE, Int.reduceLT, Int.reduceEq, Int.reduceToNat, Int.reduceAdd, Int.reduceSub, Int.reduceMul, Int.reduceNeg] <;> rfl))
  (ho : o.op = .call { callee := .value (.func f), args := args, argTypes := tys } := by rfl)
  (hp : args.toList.all (fun x => ((ev X x).plain).isSome) = true := by kernel_rfl)
  (hu : args.map (fun x => ((ev X x).plain).getD undef) = us := by kernel_rfl)
  (hs : stepF P rid i X o = none := by (first | (simp only [push_cast, reduceCtorEq, Nat.reduceAdd, Nat.reduceSub, Nat.reduceMul, Nat.reduceEqDiff, Nat.reduceLT, Nat.reduceLeDiff, Nat.reduceMod, Nat.reduceDiv, Int.reduceLE, Int.reduceLT, Int.reduceEq, Int.reduceToNat, Int.reduceAdd, Int.reduceSub, Int.reduceMul, Int.reduceNeg]) | (simp only [stepF, callF])))
  (hX : X.app o.dst { val := .t (.v res) } = X' := by (simp only [push_cast, reduceCtorEq, Nat.reduceAdd, Nat.reduceEqDiff] <;> rfl))
  (hi : i + 1 = i' := by (simp only [Nat.reduceAdd] <;> rfl)) : wpS Γ P ops rid i (o :: os) X [] (regK ops' false Q) := s_by_if0 hg hb hs (spec_ext us ho hp hu hr) (fun _ => rfl) hX hi h
theorem a_extgod {gi : Nat} {want : Bool} {f : FuncId} {args : Array Operand} {tys : Array TypeId} (us : Array Value) (res : Value) {X' : St} {ms : Meta} {i' : Nat} (h : wpS Γ P ops rid i' os X' (acc ++ [ms]) (regK ops' draw Q)) (hr : ∀ w, (callFunc f us).run P w = .ok (.value res) w) (hg : o.guard = some (gi, want) := by rfl)
  (hb : wantIs (gslot ops X gi) want = some true := by (simp only [gslot, Option.bind_some, push_cast, reduceCtorEq, Nat.reduceAdd, Nat.reduceSub, Nat.reduceMul, Nat.reduceEqDiff, Nat.reduceLT, Nat.reduceLeDiff, Nat.reduceMod, Nat.reduceDiv, Int.reduceLE, Int.reduceLT, Int.reduceEq, Int.reduceToNat, Int.reduceAdd, Int.reduceSub, Int.reduceMul, Int.reduceNeg] <;> rfl))
  (ho : o.op = .call { callee := .value (.func f), args := args, argTypes := tys } := by rfl)
  (hp : args.toList.all (fun x => ((ev X x).plain).isSome) = true := by kernel_rfl)
  (hu : args.map (fun x => ((ev X x).plain).getD undef) = us := by kernel_rfl)
  (hs : stepF P rid i X o = none := by (first | (simp only [push_cast, reduceCtorEq, Nat.reduceAdd, Nat.reduceSub, Nat.reduceMul, Nat.reduceEqDiff, Nat.reduceLT, Nat.reduceLeDiff, Nat.reduceMod, Nat.reduceDiv, Int.reduceLE, Int.reduceLT, Int.reduceEq, Int.reduceToNat, Int.reduceAdd, Int.reduceSub, Int.reduceMul, Int.reduceNeg]) | (simp only [stepF, callF])))
  (hX : X.app o.dst { val := .t (.v res) } = X' := by (simp only [push_cast, reduceCtorEq, Nat.reduceAdd, Nat.reduceEqDiff] <;> rfl))
  (hm : (Rec.info { val := .t (.v res) }) = ms := by (simp only [Rec.info, push_cast, reduceCtorEq, Nat.reduceAdd, Nat.reduceEqDiff] <;> rfl))
  (hi : i + 1 = i' := by (simp only [Nat.reduceAdd] <;> rfl)) : wpS Γ P ops rid i (o :: os) X acc (regK ops' draw Q) := s_by_if hg hb hs (spec_ext us ho hp hu hr) (fun _ => rfl) hX hm hi h
theorem a_extm {rx : Operand} {name : String} {tys : Array TypeId} {ty : TypeId} {v v' : Value} {f : FuncId} (res : Value) {X' : St} {i' : Nat} (h : wpS Γ P ops rid i' os X' [] (regK ops' false Q)) (hm1 : ∀ w, (method (P.types.size + Made.depth) ty v name).run P w = .ok (f, v') w) (hr : ∀ w, (callFunc f #[v']).run P w = .ok (.value res) w) (hg : o.guard = none := by rfl)
  (ho : o.op = .call { callee := .invoke rx name, args := #[], argTypes := tys } := by rfl)
  (hx : (ev X rx).plain = some (.iface ty v) := by rfl)
  (hs : stepF P rid i X o = none := by (first | (simp only [push_cast, reduceCtorEq, Nat.reduceAdd, Nat.reduceSub, Nat.reduceMul, Nat.reduceEqDiff, Nat.reduceLT, Nat.reduceLeDiff, Nat.reduceMod, Nat.reduceDiv, Int.reduceLE, Int.reduceLT, Int.reduceEq, Int.reduceToNat, Int.reduceAdd, Int.reduceSub, Int.reduceMul, Int.reduceNeg]) | (simp only [stepF, callF])))
  (hX : X.app o.dst { val := .t (.v res) } = X' := by (simp only [push_cast, reduceCtorEq, Nat.reduceAdd, Nat.reduceEqDiff] <;> rfl))
  (hi : i + 1 = i' := by (simp only [Nat.reduceAdd] <;> rfl)) : wpS Γ P ops rid i (o :: os) X [] (regK ops' false Q) := s_by0 hg hs (spec_extm ho hx hm1 hr) (fun _ => rfl) hX hi h
theorem a_extmd {rx : Operand} {name : String} {tys : Array TypeId} {ty : TypeId} {v v' : Value} {f : FuncId} (res : Value) {X' : St} {ms : Meta} {i' : Nat} (h : wpS Γ P ops rid i' os X' (acc ++ [ms]) (regK ops' draw Q)) (hm1 : ∀ w, (method (P.types.size + Made.depth) ty v name).run P w = .ok (f, v') w) (hr : ∀ w, (callFunc f #[v']).run P w = .ok (.value res) w) (hg : o.guard = none := by rfl)
  (ho : o.op = .call { callee := .invoke rx name, args := #[], argTypes := tys } := by rfl)
  (hx : (ev X rx).plain = some (.iface ty v) := by rfl)
  (hs : stepF P rid i X o = none := by (first | (simp only [push_cast, reduceCtorEq, Nat.reduceAdd, Nat.reduceSub, Nat.reduceMul, Nat.reduceEqDiff, Nat.reduceLT, Nat.reduceLeDiff, Nat.reduceMod, Nat.reduceDiv, Int.reduceLE, Int.reduceLT, Int.reduceEq, Int.reduceToNat, Int.reduceAdd, Int.reduceSub, Int.reduceMul, Int.reduceNeg]) | (simp only [stepF, callF])))
  (hX : X.app o.dst { val := .t (.v res) } = X' := by (simp only [push_cast, reduceCtorEq, Nat.reduceAdd, Nat.reduceEqDiff] <;> rfl))
  (hm : (Rec.info { val := .t (.v res) }) = ms := by (simp only [Rec.info, push_cast, reduceCtorEq, Nat.reduceAdd, Nat.reduceEqDiff] <;> rfl))
  (hi : i + 1 = i' := by (simp only [Nat.reduceAdd] <;> rfl)) : wpS Γ P ops rid i (o :: os) X acc (regK ops' draw Q) := s_by hg hs (spec_extm ho hx hm1 hr) (fun _ => rfl) hX hm hi h
theorem a_extmgo {gi : Nat} {want : Bool} {rx : Operand} {name : String} {tys : Array TypeId} {ty : TypeId} {v v' : Value} {f : FuncId} (res : Value) {X' : St} {i' : Nat} (h : wpS Γ P ops rid i' os X' [] (regK ops' false Q)) (hm1 : ∀ w, (method (P.types.size + Made.depth) ty v name).run P w = .ok (f, v') w) (hr : ∀ w, (callFunc f #[v']).run P w = .ok (.value res) w) (hg : o.guard = some (gi, want) := by rfl)
  (hb : wantIs (gslot ops X gi) want = some true := by (simp only [gslot, Option.bind_some, push_cast, reduceCtorEq, Nat.reduceAdd, Nat.reduceSub, Nat.reduceMul, Nat.reduceEqDiff, Nat.reduceLT, Nat.reduceLeDiff, Nat.reduceMod, Nat.reduceDiv, Int.reduceLE, Int.reduceLT, Int.reduceEq, Int.reduceToNat, Int.reduceAdd, Int.reduceSub, Int.reduceMul, Int.reduceNeg] <;> rfl))
  (ho : o.op = .call { callee := .invoke rx name, args := #[], argTypes := tys } := by rfl)
  (hx : (ev X rx).plain = some (.iface ty v) := by rfl)
  (hs : stepF P rid i X o = none := by (first | (simp only [push_cast, reduceCtorEq, Nat.reduceAdd, Nat.reduceSub, Nat.reduceMul, Nat.reduceEqDiff, Nat.reduceLT, Nat.reduceLeDiff, Nat.reduceMod, Nat.reduceDiv, Int.reduceLE, Int.reduceLT, Int.reduceEq, Int.reduceToNat, Int.reduceAdd, Int.reduceSub, Int.reduceMul, Int.reduceNeg]) | (simp only [stepF, callF])))
  (hX : X.app o.dst { val := .t (.v res) } = X' := by (simp only [push_cast, reduceCtorEq, Nat.reduceAdd, Nat.reduceEqDiff] <;> rfl))
  (hi : i + 1 = i' := by (simp only [Nat.reduceAdd] <;> rfl)) : wpS Γ P ops rid i (o :: os) X [] (regK ops' false Q) := s_by_if0 hg hb hs (spec_extm ho hx hm1 hr) (fun _ => rfl) hX hi h
theorem a_extmgod {gi : Nat} {want : Bool} {rx : Operand} {name : String} {tys : Array TypeId} {ty : TypeId} {v v' : Value} {f : FuncId} (res : Value) {X' : St} {ms : Meta} {i' : Nat} (h : wpS Γ P ops rid i' os X' (acc ++ [ms]) (regK ops' draw Q)) (hm1 : ∀ w, (method (P.types.size + Made.depth) ty v name).run P w = .ok (f, v') w) (hr : ∀ w, (callFunc f #[v']).run P w = .ok (.value res) w) (hg : o.guard = some (gi, want) := by rfl)
  (hb : wantIs (gslot ops X gi) want = some true := by (simp only [gslot, Option.bind_some, push_cast, reduceCtorEq, Nat.reduceAdd, Nat.reduceSub, Nat.reduceMul, Nat.reduceEqDiff, Nat.reduceLT, Nat.reduceLeDiff, Nat.reduceMod, Nat.reduceDiv, Int.reduceLE, Int.reduceLT, Int.reduceEq, Int.reduceToNat, Int.reduceAdd, Int.reduceSub, Int.reduceMul, Int.reduceNeg] <;> rfl))
  (ho : o.op = .call { callee := .invoke rx name, args := #[], argTypes := tys } := by rfl)
  (hx : (ev X rx).plain = some (.iface ty v) := by rfl)
  (hs : stepF P rid i X o = none := by (first | (simp only [push_cast, reduceCtorEq, Nat.reduceAdd, Nat.reduceSub, Nat.reduceMul, Nat.reduceEqDiff, Nat.reduceLT, Nat.reduceLeDiff, Nat.reduceMod, Nat.reduceDiv, Int.reduceLE, Int.reduceLT, Int.reduceEq, Int.reduceToNat, Int.reduceAdd, Int.reduceSub, Int.reduceMul, Int.reduceNeg]) | (simp only [stepF, callF])))
  (hX : X.app o.dst { val := .t (.v res) } = X' := by (simp only [push_cast, reduceCtorEq, Nat.reduceAdd, Nat.reduceEqDiff] <;> rfl))
  (hm : (Rec.info { val := .t (.v res) }) = ms := by (simp only [Rec.info, push_cast, reduceCtorEq, Nat.reduceAdd, Nat.reduceEqDiff] <;> rfl))
  (hi : i + 1 = i' := by (simp only [Nat.reduceAdd] <;> rfl)) : wpS Γ P ops rid i (o :: os) X acc (regK ops' draw Q) := s_by_if hg hb hs (spec_extm ho hx hm1 hr) (fun _ => rfl) hX hm hi h
theorem a_nilnil {t u : TypeId} {x y : Operand} (neg : Bool) {X' : St} {i' : Nat} (h : wpS Γ P ops rid i' os X' [] (regK ops' false Q))  (hg : o.guard = none := by rfl)
  (ho : o.op = .binOp (if neg then .neq else .eql) t x y u := by rfl)
  (hx : ev X x = .t (.v .nilIface) := by rfl) (hy : y = .const .nilIface := by rfl) (ht : P.underlying t = some (.interface (P.methodsAt t)) := by (simp only [push_cast]))
  (hs : stepF P rid i X o = none := by (first | (simp only [push_cast, reduceCtorEq, Nat.reduceAdd, Nat.reduceSub, Nat.reduceMul, Nat.reduceEqDiff, Nat.reduceLT, Nat.reduceLeDiff, Nat.reduceMod, Nat.reduceDiv, Int.reduceLE, Int.reduceLT, Int.reduceEq, Int.reduceToNat, Int.reduceAdd, Int.reduceSub, Int.reduceMul, Int.reduceNeg]) | (simp only [stepF, callF])))
  (hX : X.app o.dst { val := .t (.v (.bool !neg)) } = X' := by (simp only [push_cast, reduceCtorEq, Nat.reduceAdd, Nat.reduceEqDiff] <;> rfl))
  (hi : i + 1 = i' := by (simp only [Nat.reduceAdd] <;> rfl)) : wpS Γ P ops rid i (o :: os) X [] (regK ops' false Q) := s_by0 hg hs (spec_nilNil t u x y neg ho hx hy ht) (fun _ => rfl) hX hi h
theorem a_nilnild {t u : TypeId} {x y : Operand} (neg : Bool) {X' : St} {ms : Meta} {i' : Nat} (h : wpS Γ P ops rid i' os X' (acc ++ [ms]) (regK ops' draw Q))  (hg : o.guard = none := by rfl)
  (ho : o.op = .binOp (if neg then .neq else .eql) t x y u := by rfl)
  (hx : ev X x = .t (.v .nilIface) := by rfl) (hy : y = .const .nilIface := by rfl) (ht : P.underlying t = some (.interface (P.methodsAt t)) := by (simp only [push_cast]))
  (hs : stepF P rid i X o = none := by (first | (simp only [push_cast, reduceCtorEq, Nat.reduceAdd, Nat.reduceSub, Nat.reduceMul, Nat.reduceEqDiff, Nat.reduceLT, Nat.reduceLeDiff, Nat.reduceMod, Nat.reduceDiv, Int.reduceLE, Int.reduceLT, Int.reduceEq, Int.reduceToNat, Int.reduceAdd, Int.reduceSub, Int.reduceMul, Int.reduceNeg]) | (simp only [stepF, callF])))
  (hX : X.app o.dst { val := .t (.v (.bool !neg)) } = X' := by (simp only [push_cast, reduceCtorEq, Nat.reduceAdd, Nat.reduceEqDiff] <;> rfl))
  (hm : (Rec.info { val := .t (.v (.bool !neg)) }) = ms := by (simp only [Rec.info, push_cast, reduceCtorEq, Nat.reduceAdd, Nat.reduceEqDiff] <;> rfl))
  (hi : i + 1 = i' := by (simp only [Nat.reduceAdd] <;> rfl)) : wpS Γ P ops rid i (o :: os) X acc (regK ops' draw Q) := s_by hg hs (spec_nilNil t u x y neg ho hx hy ht) (fun _ => rfl) hX hm hi h
theorem a_nilnilgo {gi : Nat} {want : Bool} {t u : TypeId} {x y : Operand} (neg : Bool) {X' : St} {i' : Nat} (h : wpS Γ P ops rid i' os X' [] (regK ops' false Q))  (hg : o.guard = some (gi, want) := by rfl)
  (hb : wantIs (gslot ops X gi) want = some true := by (simp only [gslot, Option.bind_some, push_cast, reduceCtorEq, Nat.reduceAdd, Nat.reduceSub, Nat.reduceMul, Nat.reduceEqDiff, Nat.reduceLT, Nat.reduceLeDiff, Nat.reduceMod, Nat.reduceDiv, Int.reduceLE, Int.reduceLT, Int.reduceEq, Int.reduceToNat, Int.reduceAdd, Int.reduceSub, Int.reduceMul, Int.reduceNeg] <;> rfl))
  (ho : o.op = .binOp (if neg then .neq else .eql) t x y u := by rfl)
  (hx : ev X x = .t (.v .nilIface) := by rfl) (hy : y = .const .nilIface := by rfl) (ht : P.underlying t = some (.interface (P.methodsAt t)) := by (simp only [push_cast]))
  (hs : stepF P rid i X o = none := by (first | (simp only [push_cast, reduceCtorEq, Nat.reduceAdd, Nat.reduceSub, Nat.reduceMul, Nat.reduceEqDiff, Nat.reduceLT, Nat.reduceLeDiff, Nat.reduceMod, Nat.reduceDiv, Int.reduceLE, Int.reduceLT, Int.reduceEq, Int.reduceToNat, Int.reduceAdd, Int.reduceSub, Int.reduceMul, Int.reduceNeg]) | (simp only [stepF, callF])))
  (hX : X.app o.dst { val := .t (.v (.bool !neg)) } = X' := by (simp only [push_cast, reduceCtorEq, Nat.reduceAdd, Nat.reduceEqDiff] <;> rfl))
  (hi : i + 1 = i' := by (simp only [Nat.reduceAdd] <;> rfl)) : wpS Γ P ops rid i (o :: os) X [] (regK ops' false Q) := s_by_if0 hg hb hs (spec_nilNil t u x y neg ho hx hy ht) (fun _ => rfl) hX hi h
theorem a_nilnilgod {gi : Nat} {want : Bool} {t u : TypeId} {x y : Operand} (neg : Bool) {X' : St} {ms : Meta} {i' : Nat} (h : wpS Γ P ops rid i' os X' (acc ++ [ms]) (regK ops' draw Q))  (hg : o.guard = some (gi, want) := by rfl)
  (hb : wantIs (gslot ops X gi) want = some true := by (simp only [gslot, Option.bind_some, push_cast, reduceCtorEq, Nat.reduceAdd, Nat.reduceSub, Nat.reduceMul, Nat.reduceEqDiff, Nat.reduceLT, Nat.reduceLeDiff, Nat.reduceMod, Nat.reduceDiv, Int.reduceLE, Int.reduceLT, Int.reduceEq, Int.reduceToNat, Int.reduceAdd, Int.reduceSub, Int.reduceMul, Int.reduceNeg] <;> rfl))
  (ho : o.op = .binOp (if neg then .neq else .eql) t x y u := by rfl)
  (hx : ev X x = .t (.v .nilIface) := by rfl) (hy : y = .const .nilIface := by rfl) (ht : P.underlying t = some (.interface (P.methodsAt t)) := by (simp only [push_cast]))
  (hs : stepF P rid i X o = none := by (first | (simp only [push_cast, reduceCtorEq, Nat.reduceAdd, Nat.reduceSub, Nat.reduceMul, Nat.reduceEqDiff, Nat.reduceLT, Nat.reduceLeDiff, Nat.reduceMod, Nat.reduceDiv, Int.reduceLE, Int.reduceLT, Int.reduceEq, Int.reduceToNat, Int.reduceAdd, Int.reduceSub, Int.reduceMul, Int.reduceNeg]) | (simp only [stepF, callF])))
  (hX : X.app o.dst { val := .t (.v (.bool !neg)) } = X' := by (simp only [push_cast, reduceCtorEq, Nat.reduceAdd, Nat.reduceEqDiff] <;> rfl))
  (hm : (Rec.info { val := .t (.v (.bool !neg)) }) = ms := by (simp only [Rec.info, push_cast, reduceCtorEq, Nat.reduceAdd, Nat.reduceEqDiff] <;> rfl))
  (hi : i + 1 = i' := by (simp only [Nat.reduceAdd] <;> rfl)) : wpS Γ P ops rid i (o :: os) X acc (regK ops' draw Q) := s_by_if hg hb hs (spec_nilNil t u x y neg ho hx hy ht) (fun _ => rfl) hX hm hi h
theorem a_isnil {t u : TypeId} {x y : Operand} (neg : Bool) {X' : St} {i' : Nat} (h : wpS Γ P ops rid i' os X' [] (regK ops' false Q))  (hg : o.guard = none := by rfl)
  (ho : o.op = .binOp (if neg then .neq else .eql) t x y u := by rfl)
  (hx : (∃ q z, ev X x = .t (.ifc q z)) ∨ ∃ q z, ev X x = .ifc q z := by first | exact .inl ⟨_, _, rfl⟩ | exact .inr ⟨_, _, rfl⟩) (hy : y = .const .nilIface := by rfl) (ht : P.underlying t = some (.interface (P.methodsAt t)) := by (simp only [push_cast]))
  (hs : stepF P rid i X o = none := by (first | (simp only [push_cast, reduceCtorEq, Nat.reduceAdd, Nat.reduceSub, Nat.reduceMul, Nat.reduceEqDiff, Nat.reduceLT, Nat.reduceLeDiff, Nat.reduceMod, Nat.reduceDiv, Int.reduceLE, Int.reduceLT, Int.reduceEq, Int.reduceToNat, Int.reduceAdd, Int.reduceSub, Int.reduceMul, Int.reduceNeg]) | (simp only [stepF, callF])))
  (hX : X.app o.dst { val := .t (.v (.bool neg)) } = X' := by (simp only [push_cast, reduceCtorEq, Nat.reduceAdd, Nat.reduceEqDiff] <;> rfl))
  (hi : i + 1 = i' := by (simp only [Nat.reduceAdd] <;> rfl)) : wpS Γ P ops rid i (o :: os) X [] (regK ops' false Q) := s_by0 hg hs (spec_isNil t u x y neg ho hx hy ht) (fun _ => rfl) hX hi h
theorem a_isnild {t u : TypeId} {x y : Operand} (neg : Bool) {X' : St} {ms : Meta} {i' : Nat} (h : wpS Γ P ops rid i' os X' (acc ++ [ms]) (regK ops' draw Q))  (hg : o.guard = none := by rfl)
  (ho : o.op = .binOp (if neg then .neq else .eql) t x y u := by rfl)
  (hx : (∃ q z, ev X x = .t (.ifc q z)) ∨ ∃ q z, ev X x = .ifc q z := by first | exact .inl ⟨_, _, rfl⟩ | exact .inr ⟨_, _, rfl⟩) (hy : y = .const .nilIface := by rfl) (ht : P.underlying t = some (.interface (P.methodsAt t)) := by (simp only [push_cast]))
  (hs : stepF P rid i X o = none := by (first | (simp only [push_cast, reduceCtorEq, Nat.reduceAdd, Nat.reduceSub, Nat.reduceMul, Nat.reduceEqDiff, Nat.reduceLT, Nat.reduceLeDiff, Nat.reduceMod, Nat.reduceDiv, Int.reduceLE, Int.reduceLT, Int.reduceEq, Int.reduceToNat, Int.reduceAdd, Int.reduceSub, Int.reduceMul, Int.reduceNeg]) | (simp only [stepF, callF])))
  (hX : X.app o.dst { val := .t (.v (.bool neg)) } = X' := by (simp only [push_cast, reduceCtorEq, Nat.reduceAdd, Nat.reduceEqDiff] <;> rfl))
  (hm : (Rec.info { val := .t (.v (.bool neg)) }) = ms := by (simp only [Rec.info, push_cast, reduceCtorEq, Nat.reduceAdd, Nat.reduceEqDiff] <;> rfl))
  (hi : i + 1 = i' := by (simp only [Nat.reduceAdd] <;> rfl)) : wpS Γ P ops rid i (o :: os) X acc (regK ops' draw Q) := s_by hg hs (spec_isNil t u x y neg ho hx hy ht) (fun _ => rfl) hX hm hi h
theorem a_isnilgo {gi : Nat} {want : Bool} {t u : TypeId} {x y : Operand} (neg : Bool) {X' : St} {i' : Nat} (h : wpS Γ P ops rid i' os X' [] (regK ops' false Q))  (hg : o.guard = some (gi, want) := by rfl)
  (hb : wantIs (gslot ops X gi) want = some true := by (simp only [gslot, Option.bind_some, push_cast, reduceCtorEq, Nat.reduceAdd, Nat.reduceSub, Nat.reduceMul, Nat.reduceEqDiff, Nat.reduceLT, Nat.reduceLeDiff, Nat.reduceMod, Nat.reduceDiv, Int.reduceLE, Int.reduceLT, Int.reduceEq, Int.reduceToNat, Int.reduceAdd, Int.reduceSub, Int.reduceMul, Int.reduceNeg] <;> rfl))
  (ho : o.op = .binOp (if neg then .neq else .eql) t x y u := by rfl)
  (hx : (∃ q z, ev X x = .t (.ifc q z)) ∨ ∃ q z, ev X x = .ifc q z := by first | exact .inl ⟨_, _, rfl⟩ | exact .inr ⟨_, _, rfl⟩) (hy : y = .const .nilIface := by rfl) (ht : P.underlying t = some (.interface (P.methodsAt t)) := by (simp only [push_cast]))
  (hs : stepF P rid i X o = none := by (first | (simp only [push_cast, reduceCtorEq, Nat.reduceAdd, Nat.reduceSub, Nat.reduceMul, Nat.reduceEqDiff, Nat.reduceLT, Nat.reduceLeDiff, Nat.reduceMod, Nat.reduceDiv, Int.reduceLE, Int.reduceLT, Int.reduceEq, Int.reduceToNat, Int.reduceAdd, Int.reduceSub, Int.reduceMul, Int.reduceNeg]) | (simp only [stepF, callF])))
  (hX : X.app o.dst { val := .t (.v (.bool neg)) } = X' := by (simp only [push_cast, reduceCtorEq, Nat.reduceAdd, Nat.reduceEqDiff] <;> rfl))
  (hi : i + 1 = i' := by (simp only [Nat.reduceAdd] <;> rfl)) : wpS Γ P ops rid i (o :: os) X [] (regK ops' false Q) := s_by_if0 hg hb hs (spec_isNil t u x y neg ho hx hy ht) (fun _ => rfl) hX hi h
theorem a_isnilgod {gi : Nat} {want : Bool} {t u : TypeId} {x y : Operand} (neg : Bool) {X' : St} {ms : Meta} {i' : Nat} (h : wpS Γ P ops rid i' os X' (acc ++ [ms]) (regK ops' draw Q))  (hg : o.guard = some (gi, want) := by rfl)
  (hb : wantIs (gslot ops X gi) want = some true := by (simp only [gslot, Option.bind_some, push_cast, reduceCtorEq, Nat.reduceAdd, Nat.reduceSub, Nat.reduceMul, Nat.reduceEqDiff, Nat.reduceLT, Nat.reduceLeDiff, Nat.reduceMod, Nat.reduceDiv, Int.reduceLE, Int.reduceLT, Int.reduceEq, Int.reduceToNat, Int.reduceAdd, Int.reduceSub, Int.reduceMul, Int.reduceNeg] <;> rfl))
  (ho : o.op = .binOp (if neg then .neq else .eql) t x y u := by rfl)
  (hx : (∃ q z, ev X x = .t (.ifc q z)) ∨ ∃ q z, ev X x = .ifc q z := by first | exact .inl ⟨_, _, rfl⟩ | exact .inr ⟨_, _, rfl⟩) (hy : y = .const .nilIface := by rfl) (ht : P.underlying t = some (.interface (P.methodsAt t)) := by (simp only [push_cast]))
  (hs : stepF P rid i X o = none := by (first | (simp only [push_cast, reduceCtorEq, Nat.reduceAdd, Nat.reduceSub, Nat.reduceMul, Nat.reduceEqDiff, Nat.reduceLT, Nat.reduceLeDiff, Nat.reduceMod, Nat.reduceDiv, Int.reduceLE, Int.reduceLT, Int.reduceEq, Int.reduceToNat, Int.reduceAdd, Int.reduceSub, Int.reduceMul, Int.reduceNeg]) | (simp only [stepF, callF])))
  (hX : X.app o.dst { val := .t (.v (.bool neg)) } = X' := by (simp only [push_cast, reduceCtorEq, Nat.reduceAdd, Nat.reduceEqDiff] <;> rfl))
  (hm : (Rec.info { val := .t (.v (.bool neg)) }) = ms := by (simp only [Rec.info, push_cast, reduceCtorEq, Nat.reduceAdd, Nat.reduceEqDiff] <;> rfl))
  (hi : i + 1 = i' := by (simp only [Nat.reduceAdd] <;> rfl)) : wpS Γ P ops rid i (o :: os) X acc (regK ops' draw Q) := s_by_if hg hb hs (spec_isNil t u x y neg ho hx hy ht) (fun _ => rfl) hX hm hi h
end
end Go.Ot

namespace Go.Ot
/-- An own object is given up, and its block turned. -/
theorem Sim.lose {Γ : Gl} {E : Env} {X : St} {a : Act} {w : World} {η : Et} (h : Sim Γ E X a w η) {m : Nm} {ob : Ob} (hm : X.hp m = some ob) (ho : ob.own = true)
    (hns : D.hasL m X.sl = false) (hno : ∀ m' ob', m' ≠ m → X.hp m' = some ob' → D.hasL m ob'.cells = false) {w' : World} {b s : Nat} (hη : η m = some (b, s))
    (hh : ∀ b', b' ≠ b → w'.heap[b']? = w.heap[b']?) (hsz : w'.heap.size = w.heap.size) (h1 : w'.os = w.os) (h2 : w'.tape = w.tape) (h3 : w'.output = w.output) :
    Sim Γ E { X with hp := upd X.hp m none } a w' (updE η m none) := by
  have hMut : Mut X.hp η b := ⟨m, ob, s, hm, ho, hη⟩
  have hk : Keeps w w' (Mx X.hp η E.A) := fun b' hb' hM => hh b' (fun e => hM (e ▸ .inl hMut))
  have hM : ∀ b', b' < w.heap.size → Mx (upd X.hp m none) (updE η m none) E.A b' → Mx X.hp η E.A b' := by
    rintro b' hb' (⟨m', ob', s', h1, h2, h3⟩ | h1)
    · by_cases e : m' = m
      · subst e; simp at h1
      · rw [upd_ne e] at h1
        rw [updE_ne e] at h3
        exact .inl ⟨m', ob', s', h1, h2, h3⟩
    · exact .inr h1
  have hηD : ∀ ds, D.hasL m ds = false → ∀ m' q, D.hasL m' ds = true → η m' = some q → updE η m none m' = some q := fun ds hd m' q h1 h2 => by
    rw [updE_ne (by rintro rfl; rw [hd] at h1; cases h1)]; exact h2
  refine { slots := RepsA.keeps hk hM _ _ (hηD _ hns) h.slots, ok := ⟨?_, ?_, ?_, ?_⟩, defers := h.defers, size := by rw [hsz]; exact h.size, keep := ?_, mine := ?_, mine2 := ?_, pin := ?_, low := h.low, os := h1.trans h.os, tape := h2.trans h.tape, output := h3.trans h.output, par := h.par, glob := h.glob, gle := h.gle, gM := h.gM }
  · intro m' ob' hm'
    by_cases e : m' = m
    · subst e; simp at hm'
    · have hm'' : X.hp m' = some ob' := by simpa [upd_ne e] using hm'
      refine (h.ok.objs m' ob' hm'').keeps hk hM (fun b' s' hb' => hh b' (fun e' => ?_)) (updE_ne e) (hηD _ (hno m' ob' e hm''))
      subst e'
      exact e (h.ok.inj m' m _ _ _ hb' hη)
  · intro m' q hq
    by_cases e : m' = m
    · subst e; simp at hq
    · rw [updE_ne e] at hq
      simpa [upd_ne e] using h.ok.dom m' q hq
  · intro m1 m2 b1 s1 s2 e1 e2
    by_cases e : m1 = m
    · subst e; simp at e1
    · by_cases e' : m2 = m
      · subst e'; simp at e2
      · rw [updE_ne e] at e1; rw [updE_ne e'] at e2; exact h.ok.inj _ _ _ _ _ e1 e2
  · intro m' b' s' e1
    by_cases e : m' = m
    · subst e; simp at e1
    · rw [updE_ne e] at e1; exact h.ok.noA _ _ _ e1
  · intro b' hb' hn
    rw [← h.keep b' hb' hn]
    refine hh b' ?_
    rintro rfl
    rcases h.mine m ob _ s hm ho hη with hx | hx
    · exact hn hx
    · omega
  · intro m' ob' b' s' e1 e2 e3
    by_cases e : m' = m
    · subst e; simp at e1
    · rw [updE_ne e] at e3
      exact h.mine m' ob' b' s' (by simpa [upd_ne e] using e1) e2 e3
  · intro m' b' s' e1
    by_cases e : m' = m
    · subst e; simp at e1
    · rw [updE_ne e] at e1; exact h.mine2 _ _ _ e1
  · intro m' ob' q e1 e2 e3
    by_cases e : m' = m
    · subst e; simp at e1
    · rw [updE_ne e]; exact h.pin m' ob' q (by simpa [upd_ne e] using e1) e2 e3
section
variable {Γ : Gl} {P : Program} {o : Oper} {X : St}
theorem spec_ptrNil {t u : TypeId} {x : Operand} (neg : Bool) (h : o.op = .binOp (if neg then .neq else .eql) t x (.const (.pointer none)) u) {m : Nm} {off : Nat} (hx : ev X x = .ptr m off) (ht : P.underlying t = some (.pointer (P.pointee t))) : OpSpec Γ P o X { val := .t (.v (.bool neg)) } := by
  intro E Y a w η hA hS K Q hK
  have hr := hS.ev x
  rw [hA.2.1 x (by cases neg <;> simp [h, Op.operands]), hx] at hr
  obtain ⟨b, s, hη, he⟩ := hr
  have hcn : a.eval (.const (.pointer none)) = .pointer none := rfl
  refine wp_val (v := .bool neg) (w' := w) ?_ (hK _ _ η ?_)
  · cases neg
    · simp only [execOp, h, he, hcn, Bool.false_eq_true, if_false, Sem.run_bind, run_fst (P := P) (w := w) (x := .pointer (some ⟨b, off, none⟩)) (y := .pointer none) (by simp) (by simp), Result.andThen_ok]
      rw [run_eql_pointer_nil w t _ ht]; rfl
    · simp only [execOp, h, he, hcn, if_true, Sem.run_bind, run_fst (P := P) (w := w) (x := .pointer (some ⟨b, off, none⟩)) (y := .pointer none) (by simp) (by simp), Result.andThen_ok]
      rw [run_neq_pointer_nil w t _ ht]; rfl
  · rw [app_val]
    exact hS.put (by exact rfl) o.dst
theorem spec_ptrSame {t u te : TypeId} {x y : Operand} (h : o.op = .binOp .neq t x y u) {m : Nm} {off : Nat} (hx : ev X x = .ptr m off) (hy : ev X y = .ptr m off) (ht : P.underlying t = some (.pointer te)) (hj : (P.info? te).isSome = true) : OpSpec Γ P o X { val := .t (.v (.bool false)) } := by
  obtain ⟨j, hj⟩ := Option.isSome_iff_exists.1 hj
  intro E Y a w η hA hS K Q hK
  have hr := hS.ev x
  rw [hA.2.1 x (by simp [h, Op.operands]), hx] at hr
  have hr2 := hS.ev y
  rw [hA.2.1 y (by simp [h, Op.operands]), hy] at hr2
  obtain ⟨b, s, hη, he⟩ := hr
  obtain ⟨b', s', hη', he'⟩ := hr2
  rw [hη] at hη'
  cases hη'
  refine wp_val (v := .bool false) (w' := w) ?_ (hK _ _ η ?_)
  · simp only [execOp, h, he, he', Sem.run_bind, run_fst (P := P) (w := w) (x := .pointer (some ⟨b, off, none⟩)) (y := .pointer (some ⟨b, off, none⟩)) (by simp) (by simp), Result.andThen_ok]
    rw [Lib.run_neq_ptr_same w _ ht hj]; rfl
  · rw [app_val]
    exact hS.put (by exact rfl) o.dst
def sizedB (P : Program) (t : TypeId) : Bool := match P.info? t with | some j => j.size != 0 | none => false
theorem spec_toUnsafe {src dst t : TypeId} {x : Operand} (h : o.op = .convert src dst x) {m : Nm} {off : Nat} (hx : ev X x = .ptr m off) {ob : Ob} (hm : X.hp m = some ob) (hoff : off < ob.cells.length)
    (hs : P.underlying src = some (.pointer t)) (hd : P.underlying dst = some .unsafePointer) (hj : sizedB P t = true) : OpSpec Γ P o X { val := .ptr m off, F := [m] } := by
  unfold sizedB at hj
  split at hj
  case h_2 => cases hj
  rename_i j ht
  have hj : j.size ≠ 0 := by simpa using hj
  intro E Y a w η hA hS K Q hK
  have hr := hS.ev x
  rw [hA.2.1 x (by simp [h, Op.operands]), hx] at hr
  obtain ⟨b, s, hη, he⟩ := hr
  have hm' : Y.hp m = some ob := (hA.2.2 m (by simp)).trans hm
  obtain ⟨cur, fr, hb⟩ := hS.block hm' hη
  have hsh : w.shape? b = some (ob.ty, cur.size) := by simp [World.shape?, hb.heap]
  have := Lib.run_to_unsafe (P := P) w (src := src) (dst := dst) ⟨b, off, none⟩ hs hd ht hj hsh (by have := hb.le; have := hb.size; simp; omega)
  refine wp_val (v := .pointer (some ⟨b, off, none⟩)) (w' := w) (by simp [execOp, h, he, this]) (hK _ _ η ?_)
  rw [app_val]
  exact hS.put (d := .ptr m off) (u := .pointer (some ⟨b, off, none⟩)) ⟨b, s, hη, rfl⟩ o.dst
theorem spec_fromUnsafe {src dst t : TypeId} {x : Operand} (h : o.op = .convert src dst x) {m : Nm} {off : Nat} (hx : ev X x = .ptr m off) {ob : Ob} (hm : X.hp m = some ob) (hrow : ob.row = false) (hlt : ob.ty ≠ looseT)
    (hs : P.underlying src = some .unsafePointer) (hd : P.underlying dst = some (.pointer t)) (ht : (P.info? t).isSome = true) (hlies : liesAt P P.depth ob.ty (ob.cells.length / P.cellsOf ob.ty) off t 1 = true) : OpSpec Γ P o X { val := .ptr m off, F := [m] } := by
  obtain ⟨j, ht⟩ := Option.isSome_iff_exists.1 ht
  intro E Y a w η hA hS K Q hK
  have hr := hS.ev x
  rw [hA.2.1 x (by simp [h, Op.operands]), hx] at hr
  obtain ⟨b, s, hη, he⟩ := hr
  have hm' : Y.hp m = some ob := (hA.2.2 m (by simp)).trans hm
  obtain ⟨cur, fr, hb⟩ := hS.block hm' hη
  have hsh : w.shape? b = some (ob.ty, ob.cells.length) := by simp [World.shape?, hb.heap]; rw [hb.size, hb.box hrow hlt]
  have := Lib.run_from_unsafe (P := P) w (src := src) (dst := dst) ⟨b, off, none⟩ hs hd ht hsh hlies
  refine wp_val (v := .pointer (some ⟨b, off, none⟩)) (w' := w) (by simp [execOp, h, he, this]) (hK _ _ η ?_)
  rw [app_val]
  exact hS.put (d := .ptr m off) (u := .pointer (some ⟨b, off, none⟩)) ⟨b, s, hη, rfl⟩ o.dst
/-- An external that hands its argument back. -/
theorem spec_extSame {f : FuncId} {x : Operand} {tys : Array TypeId} (h : o.op = .call { callee := .value (.func f), args := #[x], argTypes := tys }) (hr : ∀ v w, (callFunc f #[v]).run P w = .ok (.value v) w) : OpSpec Γ P o X { val := ev X x } := by
  intro E Y a w η hA hS K Q hK
  have hx := hS.ev x
  rw [hA.2.1 x (by simp [h, Op.operands, Call.operands])] at hx
  refine wp_val (v := a.eval x) (w' := w) ?_ (hK _ _ η ?_)
  · have hf : a.eval (.func f) = .func (.func f) #[] #[] := rfl
    simp only [execOp, h, resolve, hf, Deferred.ofValue, Sem.run_bind, Sem.run_pure, Result.andThen_ok, invoke]
    simp [hr]
  · rw [app_val]
    exact hS.put hx o.dst
theorem spec_sliceData {x : Operand} {t : TypeId} (h : o.op = .call { callee := .builtin .unsafeSliceData, args := #[x], argTypes := #[t] }) {m : Nm} {off n sz : Nat} (hx : ev X x = .msl m off n sz) (hn : 0 < n) : OpSpec Γ P o X { val := .ptr m off } := by
  intro E Y a w η hA hS K Q hK
  have hr := hS.ev x
  rw [hA.2.1 x (by simp [h, Op.operands, Call.operands]), hx] at hr
  obtain ⟨A, c, he, h1, h2, h3⟩ := hr
  rcases h3 with h3 | ⟨b, s, hη, rfl, _⟩
  · omega
  have := Lib.run_unsafeSliceData_row (P := P) w #[t] o.type ⟨b, off, none⟩ n c (by omega)
  refine wp_val (v := .pointer (some ⟨b, off, none⟩)) (w' := w) (by simp [execOp, h, resolve, invoke, builtin, he, this]) (hK _ _ η ?_)
  rw [app_val]
  exact hS.put (d := .ptr m off) (u := .pointer (some ⟨b, off, none⟩)) ⟨b, s, hη, rfl⟩ o.dst
theorem spec_unsafeString {pt it : TypeId} {x y : Operand} (h : o.op = .call { callee := .builtin .unsafeString, args := #[x, y], argTypes := #[pt, it] }) {m : Nm} (hx : ev X x = .ptr m 0) (l : List UInt8) (hy : ev X y = .t (.v (.int .i64 l.length))) {ob : Ob} (hm : X.hp m = some ob) (ho : ob.own = true)
    (hl : l ≠ []) (hc : ∀ (j : Nat) (z : UInt8), l[j]? = some z → ob.cells[j]? = some (D.t (.v (.int .u8 z.toNat)))) (hlen : l.length ≤ ob.cells.length) (h63 : l.length ≤ 9223372036854775807) (hp : P.underlying pt = some (.pointer ob.ty)) (hc1 : P.cellsOf ob.ty = 1) :
    OpSpec Γ P o X { val := .t (.v (.string (S l))), upd := [(m, none)], F := [m], poi := [m], bar := true } := by
  intro E Y a w η hA hS K Q hK
  have hr := hS.ev x
  rw [hA.2.1 x (by simp [h, Op.operands, Call.operands]), hx] at hr
  have hr2 := hS.ev y
  rw [hA.2.1 y (by simp [h, Op.operands, Call.operands]), hy] at hr2
  have hm := (hA.2.2 m (by simp)).trans hm
  obtain ⟨b, s, hη, he⟩ := hr
  have he2 : a.eval y = .int .i64 l.length := hr2
  obtain ⟨cur, fr, hb⟩ := hS.block hm hη
  have hsh : w.shape? b = some (ob.ty, cur.size) := by simp [World.shape?, hb.heap]
  have hrun := Lib.run_unsafeString_row (P := P) w pt it o.type ob.ty hp hc1 b cur.size hsh l hl (by have := hb.le; have := hb.size; omega) h63 (fun j z hz => by
    obtain ⟨u, hu, _, hu2⟩ := hb.cell (hc j z hz)
    have hu2 : u = .int .u8 z.toNat := hu2
    subst hu2
    rw [add_at]
    simpa using hu)
  have hl0 : l.length ≠ 0 := by simpa using hl
  refine wp_val (v := .string (S l)) (w' := w.freeze ⟨b, 0, none⟩ l.length) (by simp [execOp, h, resolve, invoke, builtin, he, he2, hrun, S]) (hK _ _ (updE η m none) ?_)
  have h1 := hS.poi m
  have h2 := Sim.lose (w' := w.freeze ⟨b, 0, none⟩ l.length) h1 (m := m) (ob := ob.poi m) (by simp [St.poi, hm]) ho (by simp [St.poi, D.hasL_poi]) (fun m' ob' _ h' => by
      simp only [St.poi, Option.map_eq_some_iff] at h'
      obtain ⟨ob0, _, rfl⟩ := h'
      simp [Ob.poi, D.hasL_poi]) hη (fun b' hb' => by
        simp only [World.freeze, hl0, if_false]
        rw [Array.getElem?_modify]
        simp [Ne.symm hb']) (by simp [World.freeze, hl0]) (by simp [World.freeze, hl0]) (by simp [World.freeze, hl0]) (by simp [World.freeze, hl0])
  exact h2.put (d := .t (.v (.string (S l)))) (by exact rfl) o.dst
end

/-! ### calls that are handed objects -/
/-- The objects that a call is handed, one by one. -/
def ObsAt (src : Nm → Option Nm) (len : Nm → Prop) (hp : Nm → Option Ob) : List Nm → List Ob → Prop
  | m :: ms, o' :: ps => (∃ ob, hp m = some ob ∧ o'.ty = ob.ty ∧ rowOk m o' ob ∧ (o'.own = true → ob.own = true) ∧ VwL src hp len o'.cells ob.cells) ∧ ObsAt src len hp ms ps
  | [], [] => True
  | _, _ => False
theorem ObsAt.len {src : Nm → Option Nm} {len : Nm → Prop} {hp : Nm → Option Ob} : ∀ {nms : List Nm} {ps : List Ob}, ObsAt src len hp nms ps → nms.length = ps.length
  | [], [], _ => rfl
  | [], _ :: _, h => h.elim
  | _ :: _, [], h => h.elim
  | _ :: ms, _ :: ps, h => by simp [ObsAt.len h.2]
theorem ObsAt.get {src : Nm → Option Nm} {len : Nm → Prop} {hp : Nm → Option Ob} : ∀ {nms : List Nm} {ps : List Ob}, ObsAt src len hp nms ps → ∀ {k : Nat} {o' : Ob}, ps[k]? = some o' → ∃ m ob, nms[k]? = some m ∧ hp m = some ob ∧ o'.ty = ob.ty ∧ rowOk m o' ob ∧ (o'.own = true → ob.own = true) ∧ VwL src hp len o'.cells ob.cells
  | [], [], _, k, o', h => by simp at h
  | [], _ :: _, h, _, _, _ => h.elim
  | _ :: _, [], h, _, _, _ => h.elim
  | m :: ms, o1 :: ps, h, 0, o', h1 => by
    simp at h1
    subst h1
    obtain ⟨ob, h2⟩ := h.1
    exact ⟨m, ob, rfl, h2⟩
  | m :: ms, o1 :: ps, h, k + 1, o', h1 => by
    simpa using ObsAt.get h.2 (k := k) (by simpa using h1)
theorem HpVw_of {nms len : List Nm} {hp : Nm → Option Ob} {ps : List Ob} (h : ObsAt (srcOf nms) (· ∈ len) hp nms ps) (hnd : nms.Nodup) (hd : ∀ m ∈ len, m ∉ nms) : HpVw (srcOf nms) (· ∈ len) hp (HpOf ps) where
  objs := by
    intro m o' hm
    cases m with
    | p k =>
      obtain ⟨m0, ob, h1, h2⟩ := h.get (k := k) hm
      exact .inr ⟨m0, ob, h1, h2⟩
    | _ => simp [HpOf] at hm
  dom := by
    intro m m0 hm
    cases m with
    | p k =>
      have hk : k < nms.length := (List.getElem?_eq_some_iff.1 hm).1
      rw [h.len] at hk
      simp [HpOf, List.getElem?_eq_getElem hk]
    | _ => simp [srcOf] at hm
  inj := by
    intro m m' m0 h1 h2
    cases m with
    | p k =>
      cases m' with
      | p k' =>
        have hk : k < nms.length := (List.getElem?_eq_some_iff.1 h1).1
        have := (List.getElem?_inj hk hnd).1 (h1.trans h2.symm)
        rw [this]
      | _ => simp [srcOf] at h2
    | _ => simp [srcOf] at h1
  lent := by
    intro m m0 ob' h1 h2 h3
    cases m with
    | p k => exact absurd (List.mem_of_getElem? h1) (hd m0 h2)
    | _ => simp [srcOf] at h1
def PoiOk (poi : List Nm) : List Nm → List Ob → List (Option Ob) → Prop
  | m :: ms, o1 :: ps, o2 :: ps' => (m ∈ poi ∨ (o1.row = false ∧ ∃ o', o2 = some o' ∧ o'.row = false)) ∧ (∀ o', o2 = some o' → o'.row = false → o1.row = false) ∧ PoiOk poi ms ps ps'
  | [], [], [] => True
  | _, _, _ => False
theorem PoiOk.get {poi : List Nm} : ∀ {nms : List Nm} {ps : List Ob} {ps' : List (Option Ob)}, PoiOk poi nms ps ps' → ps'.length = ps.length ∧ (∀ (k : Nat) m, nms[k]? = some m → m ∉ poi → (∃ ob, ps[k]? = some ob ∧ ob.row = false) ∧ ∃ ob', ps'[k]? = some (some ob') ∧ ob'.row = false) ∧ ∀ (k : Nat) ob1, ps'[k]? = some (some ob1) → ob1.row = false → ∃ ob, ps[k]? = some ob ∧ ob.row = false
  | [], [], [], _ => ⟨rfl, by simp, by simp⟩
  | m :: ms, o1 :: ps, o2 :: ps', h => by
    obtain ⟨i1, i2, i3⟩ := PoiOk.get h.2.2
    refine ⟨by simp [i1], fun k m' h1 h2 => ?_, fun k ob1 h1 h2 => ?_⟩
    · cases k with
      | zero =>
        simp at h1
        subst h1
        rcases h.1 with h3 | ⟨h3, o', rfl, h4⟩
        · exact absurd h3 h2
        · exact ⟨⟨o1, rfl, h3⟩, o', rfl, h4⟩
      | succ k => simpa using i2 k m' (by simpa using h1) h2
    · cases k with
      | zero =>
        simp at h1
        exact ⟨o1, rfl, h.2.1 ob1 h1 h2⟩
      | succ k => simpa using i3 k ob1 (by simpa using h1) h2
  | [], [], _ :: _, h => h.elim
  | [], _ :: _, [], h => h.elim
  | [], _ :: _, _ :: _, h => h.elim
  | _ :: _, [], [], h => h.elim
  | _ :: _, [], _ :: _, h => h.elim
  | _ :: _, _ :: _, [], h => h.elim
section
variable {Γ : Gl} {P : Program} {X : St} {ops ops' : Array Oper} {rid i : Nat} {o : Oper} {os : List Oper} {acc : List Meta} {Q : Exit → St → Prop} {K : St → List Meta → Prop} {draw : Bool}
theorem spec_callp {g : Operand} {args : Array Operand} {tys : Array TypeId} (h : o.op = .call { callee := .value g, args := args, argTypes := tys }) {f : FuncId} {caps : List D} (hg : ev X g = .fn f caps) (hc : callOk P f = true)
    (nms len poi : List Nm) {cargs : List D} {ps : List Ob} {r : D} {ps' : List (Option Ob)} {ns : List Ob} (hG : Good Γ P f cargs ps r ps' ns)
    (hv : VwL (srcOf nms) X.hp (· ∈ len) cargs (args.toList.map (ev X) ++ caps)) (hobs : ObsAt (srcOf nms) (· ∈ len) X.hp nms ps) (hnd : nms.Nodup) (hdis : ∀ m ∈ len, m ∉ nms) (hlex : ∀ m ∈ len, X.hp m ≠ none)
    (hpoi : PoiOk poi nms ps ps') (rid i : Nat) (hnew : ∀ k, k < ns.length → X.hp (.r rid i k) = none) (sh : Bool)
    (hsh : sh = false → r.flat = true ∧ (∀ ob ∈ ns, D.flatL ob.cells = true) ∧ ∀ ob, some ob ∈ ps' → D.flatL ob.cells = true)
    (hlp : sh = true → ∀ m ∈ len, ∀ ob, X.hp m = some ob → ∀ p ∈ poi, D.hasL p ob.cells = false) : OpSpec Γ P o X (callRec X nms r ps' ns rid i sh len poi) :=
  spec_call g args tys h hg hc nms len hG hv (HpVw_of hobs hnd hdis) hobs.len hpoi.get.1 (fun m hm => by
    obtain ⟨k, hk, rfl⟩ := List.mem_iff_getElem.1 hm
    obtain ⟨o', ho'⟩ : ∃ o', ps[k]? = some o' := ⟨_, List.getElem?_eq_getElem (by rw [← hobs.len]; exact hk)⟩
    obtain ⟨m0, ob, h1, h2, _⟩ := hobs.get ho'
    rw [List.getElem?_eq_getElem hk] at h1
    cases h1
    rw [h2]; simp) rid i hnew sh hsh poi hpoi.get.2.1 hdis hlex hlp hpoi.get.2.2
theorem a_by {r : Rec} {X' : St} {i' : Nat} (hsp : OpSpec Γ P o X r) (h : wpS Γ P ops rid i' os X' [] (regK ops' false Q)) (hg : o.guard = none := by rfl)
  (hs : stepF P rid i X o = none := by (first | (simp only [push_cast, reduceCtorEq, Nat.reduceAdd, Nat.reduceSub, Nat.reduceMul, Nat.reduceEqDiff, Nat.reduceLT, Nat.reduceLeDiff, Nat.reduceMod, Nat.reduceDiv, Int.reduceLE, Int.reduceLT, Int.reduceEq, Int.reduceToNat, Int.reduceAdd, Int.reduceSub, Int.reduceMul, Int.reduceNeg]) | (simp only [stepF, callF])))
  (ht : Tidy r := by first | exact (fun _ => rfl) | exact (fun h => by cases h))
  (hX : X.app o.dst r = X' := by (simp only [push_cast, reduceCtorEq, Nat.reduceAdd, Nat.reduceEqDiff] <;> rfl))
  (hi : i + 1 = i' := by (simp only [Nat.reduceAdd] <;> rfl)) : wpS Γ P ops rid i (o :: os) X [] (regK ops' false Q) := s_by0 hg hs hsp ht hX hi h
theorem a_callp {g : Operand} {args : Array Operand} {tys : Array TypeId} {f : FuncId} {caps cargs : List D} {r : D} {ps : List Ob} {ps' : List (Option Ob)} {ns : List Ob} {X' : St} {i' : Nat} (nms len poi : List Nm) (sh : Bool) (hG : Good Γ P f cargs ps r ps' ns) (h : wpS Γ P ops rid i' os X' [] (regK ops' false Q)) (hg : o.guard = none := by rfl)
  (ho : o.op = .call { callee := .value g, args := args, argTypes := tys } := by rfl)
  (hs : stepF P rid i X o = none := by (simp only [stepF, callF]))
  (hf : ev X g = .fn f caps := by (simp only [push_cast, reduceCtorEq, Nat.reduceAdd, Nat.reduceSub, Nat.reduceMul, Nat.reduceEqDiff, Nat.reduceLT, Nat.reduceLeDiff, Nat.reduceMod, Nat.reduceDiv, Int.reduceLE, Int.reduceLT, Int.reduceEq, Int.reduceToNat, Int.reduceAdd, Int.reduceSub, Int.reduceMul, Int.reduceNeg] <;> rfl))
  (hk : callOk P f = true := by (simp only [push_cast]))
  (hv : VwL (srcOf nms) X.hp (· ∈ len) cargs (args.toList.map (ev X) ++ caps) := by (simp [-List.map_map, -List.map_drop, -List.map_take, VwL_cons, VwL_nil, Vw_bad, Vw_t, Vw_ptr, Vw_msl, Vw_rop, Vw_agg, Vw_tup, Vw_ifc, VwT_refl, VwL_refl_map, Vw_nilmsl, VwT_msl, VwT_agg, VwT_v, VwT_nil, VwTs_cons, VwTs_nil, VwTs_refl, VwTs_app, List.take_of_length_le, srcL, notIn, ObsVw, SrcOk, pOk, Go.Ot.look, resP, resN, ev, evc, mkS, push_cast, srcOf, ObsAt, PoiOk]))
  (hobs : ObsAt (srcOf nms) (· ∈ len) X.hp nms ps := by (simp [-List.map_map, -List.map_drop, -List.map_take, VwL_cons, VwL_nil, Vw_bad, Vw_t, Vw_ptr, Vw_msl, Vw_rop, Vw_agg, Vw_tup, Vw_ifc, VwT_refl, VwL_refl_map, Vw_nilmsl, VwT_msl, VwT_agg, VwT_v, VwT_nil, VwTs_cons, VwTs_nil, VwTs_refl, VwTs_app, List.take_of_length_le, srcL, notIn, ObsVw, SrcOk, pOk, Go.Ot.look, resP, resN, ev, evc, mkS, push_cast, srcOf, ObsAt, PoiOk]))
  (hnd : nms.Nodup := by (simp [-List.map_map, -List.map_drop, -List.map_take, VwL_cons, VwL_nil, Vw_bad, Vw_t, Vw_ptr, Vw_msl, Vw_rop, Vw_agg, Vw_tup, Vw_ifc, VwT_refl, VwL_refl_map, Vw_nilmsl, VwT_msl, VwT_agg, VwT_v, VwT_nil, VwTs_cons, VwTs_nil, VwTs_refl, VwTs_app, List.take_of_length_le, srcL, notIn, ObsVw, SrcOk, pOk, Go.Ot.look, resP, resN, ev, evc, mkS, push_cast, srcOf, ObsAt, PoiOk]))
  (hdis : ∀ m ∈ len, m ∉ nms := by (simp))
  (hlex : ∀ m ∈ len, X.hp m ≠ none := by (simp [Go.Ot.look]))
  (hpoi : PoiOk poi nms ps ps' := by (simp [-List.map_map, -List.map_drop, -List.map_take, VwL_cons, VwL_nil, Vw_bad, Vw_t, Vw_ptr, Vw_msl, Vw_rop, Vw_agg, Vw_tup, Vw_ifc, VwT_refl, VwL_refl_map, Vw_nilmsl, VwT_msl, VwT_agg, VwT_v, VwT_nil, VwTs_cons, VwTs_nil, VwTs_refl, VwTs_app, List.take_of_length_le, srcL, notIn, ObsVw, SrcOk, pOk, Go.Ot.look, resP, resN, ev, evc, mkS, push_cast, srcOf, ObsAt, PoiOk]))
  (hnew : ∀ k, k < ns.length → X.hp (.r rid i k) = none := by (simp [Go.Ot.look]))
  (hsh : sh = false → r.flat = true ∧ (∀ ob ∈ ns, D.flatL ob.cells = true) ∧ ∀ ob, some ob ∈ ps' → D.flatL ob.cells = true := by (simp [-List.map_map, -List.map_drop, -List.map_take, D.flat, D.flatL, T.flat, T.flatL, flatL_map_t, push_cast]))
  (hlp : sh = true → ∀ m ∈ len, ∀ ob, X.hp m = some ob → ∀ p ∈ poi, D.hasL p ob.cells = false := by (simp [Go.Ot.look, D.hasL, D.has, push_cast]))
  (ht : Tidy (callRec X nms r ps' ns rid i sh len poi) := by first | exact (fun _ => rfl) | exact (fun h => by cases h))
  (hX : X.app o.dst (callRec X nms r ps' ns rid i sh len poi) = X' := by (simp only [push_cast, reduceCtorEq, Nat.reduceAdd, Nat.reduceEqDiff] <;> rfl))
  (hi : i + 1 = i' := by (simp only [Nat.reduceAdd] <;> rfl)) : wpS Γ P ops rid i (o :: os) X [] (regK ops' false Q) := s_by0 hg hs (spec_callp ho hf hk nms len poi hG hv hobs hnd hdis hlex hpoi rid i hnew sh hsh hlp) ht hX hi h
theorem a_byd {r : Rec} {X' : St} {ms : Meta} {i' : Nat} (hsp : OpSpec Γ P o X r) (h : wpS Γ P ops rid i' os X' (acc ++ [ms]) (regK ops' draw Q)) (hg : o.guard = none := by rfl)
  (hs : stepF P rid i X o = none := by (first | (simp only [push_cast, reduceCtorEq, Nat.reduceAdd, Nat.reduceSub, Nat.reduceMul, Nat.reduceEqDiff, Nat.reduceLT, Nat.reduceLeDiff, Nat.reduceMod, Nat.reduceDiv, Int.reduceLE, Int.reduceLT, Int.reduceEq, Int.reduceToNat, Int.reduceAdd, Int.reduceSub, Int.reduceMul, Int.reduceNeg]) | (simp only [stepF, callF])))
  (ht : Tidy r := by first | exact (fun _ => rfl) | exact (fun h => by cases h))
  (hX : X.app o.dst r = X' := by (simp only [push_cast, reduceCtorEq, Nat.reduceAdd, Nat.reduceEqDiff] <;> rfl))
  (hm : (r).info = ms := by (simp only [Rec.info, push_cast, reduceCtorEq, Nat.reduceAdd, Nat.reduceEqDiff] <;> rfl))
  (hi : i + 1 = i' := by (simp only [Nat.reduceAdd] <;> rfl)) : wpS Γ P ops rid i (o :: os) X acc (regK ops' draw Q) := s_by hg hs hsp ht hX hm hi h
theorem a_callpd {g : Operand} {args : Array Operand} {tys : Array TypeId} {f : FuncId} {caps cargs : List D} {r : D} {ps : List Ob} {ps' : List (Option Ob)} {ns : List Ob} {X' : St} {ms : Meta} {i' : Nat} (nms len poi : List Nm) (sh : Bool) (hG : Good Γ P f cargs ps r ps' ns) (h : wpS Γ P ops rid i' os X' (acc ++ [ms]) (regK ops' draw Q)) (hg : o.guard = none := by rfl)
  (ho : o.op = .call { callee := .value g, args := args, argTypes := tys } := by rfl)
  (hs : stepF P rid i X o = none := by (simp only [stepF, callF]))
  (hf : ev X g = .fn f caps := by (simp only [push_cast, reduceCtorEq, Nat.reduceAdd, Nat.reduceSub, Nat.reduceMul, Nat.reduceEqDiff, Nat.reduceLT, Nat.reduceLeDiff, Nat.reduceMod, Nat.reduceDiv, Int.reduceLE, Int.reduceLT, Int.reduceEq, Int.reduceToNat, Int.reduceAdd, Int.reduceSub, Int.reduceMul, Int.reduceNeg] <;> rfl))
  (hk : callOk P f = true := by (simp only [push_cast]))
  (hv : VwL (srcOf nms) X.hp (· ∈ len) cargs (args.toList.map (ev X) ++ caps) := by (simp [-List.map_map, -List.map_drop, -List.map_take, VwL_cons, VwL_nil, Vw_bad, Vw_t, Vw_ptr, Vw_msl, Vw_rop, Vw_agg, Vw_tup, Vw_ifc, VwT_refl, VwL_refl_map, Vw_nilmsl, VwT_msl, VwT_agg, VwT_v, VwT_nil, VwTs_cons, VwTs_nil, VwTs_refl, VwTs_app, List.take_of_length_le, srcL, notIn, ObsVw, SrcOk, pOk, Go.Ot.look, resP, resN, ev, evc, mkS, push_cast, srcOf, ObsAt, PoiOk]))
  (hobs : ObsAt (srcOf nms) (· ∈ len) X.hp nms ps := by (simp [-List.map_map, -List.map_drop, -List.map_take, VwL_cons, VwL_nil, Vw_bad, Vw_t, Vw_ptr, Vw_msl, Vw_rop, Vw_agg, Vw_tup, Vw_ifc, VwT_refl, VwL_refl_map, Vw_nilmsl, VwT_msl, VwT_agg, VwT_v, VwT_nil, VwTs_cons, VwTs_nil, VwTs_refl, VwTs_app, List.take_of_length_le, srcL, notIn, ObsVw, SrcOk, pOk, Go.Ot.look, resP, resN, ev, evc, mkS, push_cast, srcOf, ObsAt, PoiOk]))
  (hnd : nms.Nodup := by (simp [-List.map_map, -List.map_drop, -List.map_take, VwL_cons, VwL_nil, Vw_bad, Vw_t, Vw_ptr, Vw_msl, Vw_rop, Vw_agg, Vw_tup, Vw_ifc, VwT_refl, VwL_refl_map, Vw_nilmsl, VwT_msl, VwT_agg, VwT_v, VwT_nil, VwTs_cons, VwTs_nil, VwTs_refl, VwTs_app, List.take_of_length_le, srcL, notIn, ObsVw, SrcOk, pOk, Go.Ot.look, resP, resN, ev, evc, mkS, push_cast, srcOf, ObsAt, PoiOk]))
  (hdis : ∀ m ∈ len, m ∉ nms := by (simp))
  (hlex : ∀ m ∈ len, X.hp m ≠ none := by (simp [Go.Ot.look]))
  (hpoi : PoiOk poi nms ps ps' := by (simp [-List.map_map, -List.map_drop, -List.map_take, VwL_cons, VwL_nil, Vw_bad, Vw_t, Vw_ptr, Vw_msl, Vw_rop, Vw_agg, Vw_tup, Vw_ifc, VwT_refl, VwL_refl_map, Vw_nilmsl, VwT_msl, VwT_agg, VwT_v, VwT_nil, VwTs_cons, VwTs_nil, VwTs_refl, VwTs_app, List.take_of_length_le, srcL, notIn, ObsVw, SrcOk, pOk, Go.Ot.look, resP, resN, ev, evc, mkS, push_cast, srcOf, ObsAt, PoiOk]))
  (hnew : ∀ k, k < ns.length → X.hp (.r rid i k) = none := by (simp [Go.Ot.look]))
  (hsh : sh = false → r.flat = true ∧ (∀ ob ∈ ns, D.flatL ob.cells = true) ∧ ∀ ob, some ob ∈ ps' → D.flatL ob.cells = true := by (simp [-List.map_map, -List.map_drop, -List.map_take, D.flat, D.flatL, T.flat, T.flatL, flatL_map_t, push_cast]))
  (hlp : sh = true → ∀ m ∈ len, ∀ ob, X.hp m = some ob → ∀ p ∈ poi, D.hasL p ob.cells = false := by (simp [Go.Ot.look, D.hasL, D.has, push_cast]))
  (ht : Tidy (callRec X nms r ps' ns rid i sh len poi) := by first | exact (fun _ => rfl) | exact (fun h => by cases h))
  (hX : X.app o.dst (callRec X nms r ps' ns rid i sh len poi) = X' := by (simp only [push_cast, reduceCtorEq, Nat.reduceAdd, Nat.reduceEqDiff] <;> rfl))
  (hm : (callRec X nms r ps' ns rid i sh len poi).info = ms := by (simp only [Rec.info, push_cast, reduceCtorEq, Nat.reduceAdd, Nat.reduceEqDiff] <;> rfl))
  (hi : i + 1 = i' := by (simp only [Nat.reduceAdd] <;> rfl)) : wpS Γ P ops rid i (o :: os) X acc (regK ops' draw Q) := s_by hg hs (spec_callp ho hf hk nms len poi hG hv hobs hnd hdis hlex hpoi rid i hnew sh hsh hlp) ht hX hm hi h
end
theorem flatL_append (a b : List D) : D.flatL (a ++ b) = (D.flatL a && D.flatL b) := by
  induction a with
  | nil => simp [D.flatL]
  | cons x a ih => simp [D.flatL, ih, Bool.and_assoc]
theorem renL_append (ρ : Nm → Nm) (a b : List D) : D.renL ρ (a ++ b) = D.renL ρ a ++ D.renL ρ b := by
  induction a with
  | nil => simp [D.renL]
  | cons x a ih => simp [D.renL, ih]
attribute [push_cast] flatL_append renL_append
end Go.Ot

namespace Go.Ot
section
variable {Γ : Gl} {P : Program} {o : Oper} {X : St}
/-- A package-level variable of one cell is read. -/
theorem spec_loadGlobal (t : TypeId) (g : Nat) (h : o.op = .load t (.global g)) {v : Value} (hG : ∀ w, Γ.G w → w.cell? ⟨g, 0, none⟩ = some v) (hg : g < Γ.gs) (h1 : (P.underlying t).isSome = true) (h2 : (P.info? t).isSome = true) (hc : P.cellsOf t = 1) (ha : isAggB P t = false) :
    OpSpec Γ P o X { val := .t (.v v) } := by
  intro E Y a w η hA hS K Q hK
  have he : a.eval (.global g) = .pointer (some ⟨g, 0, none⟩) := rfl
  have hb : w.heap[g]? = E.w0.heap[g]? := hS.keep g (by have := hS.gle; omega) (fun hM => by have := hS.gM g hM; omega)
  have hcell : w.cell? ⟨g, 0, none⟩ = some v := (World.cell?_of_block (a := ⟨g, 0, none⟩) hb).trans (hG _ hS.glob)
  obtain ⟨u, hu0, hrun⟩ := run_loadVar_cells (P := P) (w := w) ⟨g, 0, none⟩ [v] h1 h2 (by simp [hc]) (fun _ => hc) (by
    intro j u hj
    cases j with
    | zero => simp at hj; subst hj; exact hcell
    | succ j => simp at hj)
  have hu := hu0 ha
  simp at hu
  subst hu
  rw [ha] at hrun
  refine wp_val (v := v) (w' := w) (by simp [execOp, h, he, Instr.loadAt, Instr.sureAddr, hrun]) (hK _ _ η ?_)
  rw [app_val]
  exact hS.put (by exact rfl) o.dst
/-- An external of one argument that looks at no memory. -/
theorem spec_ext1 {f : FuncId} {x : Operand} {tys : Array TypeId} (h : o.op = .call { callee := .value (.func f), args := #[x], argTypes := tys }) {r : D}
    (hr : ∀ w M η v, Rep w M η (ev X x) v → ∃ u, (callFunc f #[v]).run P w = .ok (.value u) w ∧ Rep w M η r u) : OpSpec Γ P o X { val := r } := by
  intro E Y a w η hA hS K Q hK
  have hx := hS.ev x
  rw [hA.2.1 x (by simp [h, Op.operands, Call.operands])] at hx
  obtain ⟨u, hu, hru⟩ := hr _ _ _ _ hx
  refine wp_val (v := u) (w' := w) ?_ (hK _ _ η ?_)
  · have hf : a.eval (.func f) = .func (.func f) #[] #[] := rfl
    simp only [execOp, h, resolve, hf, Deferred.ofValue, Sem.run_bind, Sem.run_pure, Result.andThen_ok, invoke]
    simp [hu]
  · rw [app_val]
    exact hS.put hru o.dst
/-- An external of one argument that looks at the first cell of an object. -/
theorem spec_ext1m {f : FuncId} {x : Operand} {tys : Array TypeId} (h : o.op = .call { callee := .value (.func f), args := #[x], argTypes := tys }) {r d0 : D} {m : Nm} {ob : Ob} (hm : X.hp m = some ob) (h0 : ob.cells = [d0])
    (hr : ∀ w M η v b s u0, Rep w M η (ev X x) v → η m = some (b, s) → w.cell? ⟨b, 0, none⟩ = some u0 → Rep w M η d0 u0 → ∃ u, (callFunc f #[v]).run P w = .ok (.value u) w ∧ Rep w M η r u) : OpSpec Γ P o X { val := r, F := [m] } := by
  intro E Y a w η hA hS K Q hK
  have hx := hS.ev x
  rw [hA.2.1 x (by simp [h, Op.operands, Call.operands])] at hx
  have hm' : Y.hp m = some ob := (hA.2.2 m (by simp)).trans hm
  obtain ⟨b, s, hη⟩ : ∃ b s, η m = some (b, s) := by
    have := hS.ok.objs m ob hm'
    unfold ObRep at this
    split at this
    · rw [h0] at this; cases this.2
    · rename_i b s e; exact ⟨b, s, e⟩
  obtain ⟨cur, fr, hb⟩ := hS.block hm' hη
  obtain ⟨u0, hu0, _, hR0⟩ := hb.reps.get (j := 0) (d := d0) (by rw [h0]; rfl)
  have hcell : w.cell? ⟨b, 0, none⟩ = some u0 := by
    rw [cell_of_row w b 0 cur ob.ty fr hb.heap]
    rw [List.getElem?_take] at hu0
    split at hu0
    · simpa using hu0
    · cases hu0
  obtain ⟨u, hu, hru⟩ := hr _ _ _ _ b s u0 hx hη hcell hR0
  refine wp_val (v := u) (w' := w) ?_ (hK _ _ η ?_)
  · have hf : a.eval (.func f) = .func (.func f) #[] #[] := rfl
    simp only [execOp, h, resolve, hf, Deferred.ofValue, Sem.run_bind, Sem.run_pure, Result.andThen_ok, invoke]
    simp [hu]
  · rw [app_val]
    exact hS.put hru o.dst
/-- reflectlite.ValueOf: a new variable that has what the interface value has. -/
theorem spec_valueOf {f : FuncId} {x : Operand} {tys : Array TypeId} (h : o.op = .call { callee := .value (.func f), args := #[x], argTypes := tys }) {ty : TypeId} {c : D} {H F : Value} (rid i k : Nat) (hm : X.hp (.r rid i k) = none) (hH : H.oneCell' = true) (hF : F.oneCell' = true)
    (hr : ∀ w M η v, Rep w M η (ev X x) v → ∃ u, Rep w M η c u ∧ u.oneCell' = true ∧ (callFunc f #[v]).run P w = .ok (.value (.agg #[H, .pointer (some ⟨w.heap.size, 0, none⟩), F])) (w.alloc (.cells #[u] ty))) :
    OpSpec Γ P o X { val := .agg [.t (.v H), .ptr (.r rid i k) 0, .t (.v F)], F := [.r rid i k], upd := [(.r rid i k, some ⟨[c], ty, false, true⟩)] } := by
  intro E Y a w η hA hS K Q hK
  have hx := hS.ev x
  rw [hA.2.1 x (by simp [h, Op.operands, Call.operands])] at hx
  have hm' : Y.hp (.r rid i k) = none := (hA.2.2 _ (by simp)).trans hm
  obtain ⟨u, hu, hu1, hrun⟩ := hr _ _ _ _ hx
  refine wp_val (v := .agg #[H, .pointer (some ⟨w.heap.size, 0, none⟩), F]) (w' := w.alloc (.cells #[u] ty)) ?_ (hK _ _ (updE η (.r rid i k) (some (w.heap.size, 1))) ?_)
  · have hf : a.eval (.func f) = .func (.func f) #[] #[] := rfl
    simp only [execOp, h, resolve, hf, Deferred.ofValue, Sem.run_bind, Sem.run_pure, Result.andThen_ok, invoke]
    simp [hrun]
  rw [app_upd]
  refine Sim.put (X := { Y with hp := upd Y.hp _ _ }) (hS.new hm' (hS.not_par rid i k) ⟨[c], ty, false, true⟩ #[u] (0, 0) (by intro j _ ⟨_, h2⟩; omega) rfl (by simp) (by intro _; rfl) ⟨u, [], rfl, hu1, hu, rfl⟩) (d := .agg [.t (.v H), .ptr _ 0, .t (.v F)]) ?_ o.dst
  refine ⟨_, rfl, ?_⟩
  exact ⟨_, _, rfl, hH, rfl, _, _, rfl, rfl, ⟨w.heap.size, 1, by simp, rfl⟩, _, _, rfl, hF, rfl, rfl⟩
/-- (reflectlite.Value).Set of a value of one cell. -/
theorem spec_reflectSet {f : FuncId} {x y : Operand} {tys : Array TypeId} (h : o.op = .call { callee := .value (.func f), args := #[x, y], argTypes := tys }) {H1 F1 H2 F2 : Value} {m m2 : Nm} {off : Nat} {c : D} {ob ob2 : Ob} {t : TypeId} (mk : Value → Value)
    (hx : ev X x = .agg [.t (.v H1), .ptr m off, .t (.v F1)]) (hy : ev X y = .agg [.t (.v H2), .ptr m2 0, .t (.v F2)]) (hm : X.hp m = some ob) (ho : ob.own = true) (hm2 : X.hp m2 = some ob2) (h2 : ob2.cells = [c]) (hoff : off < ob.cells.length)
    (ht : (P.info? t).isSome = true) (hct : P.cellsOf t = 1) (hmk : ∀ u : Value, u.oneCell' = true → (mk u).cells = #[u])
    (hr : ∀ w a b u, w.cell? b = some u → u.oneCell' = true → (callFunc f #[.agg #[H1, .pointer (some a), F1], .agg #[H2, .pointer (some b), F2]]).run P w = (do storeVar t a (mk u); pure (.value (.tuple #[])) : Sem Next).run P w) :
    OpSpec Γ P o X { val := .tup [], F := [m, m2], upd := [(m, some { ob with cells := setAt ob.cells off [c] })] } := by
  intro E Y a w η hA hS K Q hK
  have hx' := hS.ev x
  rw [hA.2.1 x (by simp [h, Op.operands, Call.operands]), hx] at hx'
  have hy' := hS.ev y
  rw [hA.2.1 y (by simp [h, Op.operands, Call.operands]), hy] at hy'
  have hm' : Y.hp m = some ob := (hA.2.2 m (by simp)).trans hm
  have hm2' : Y.hp m2 = some ob2 := (hA.2.2 m2 (by simp)).trans hm2
  obtain ⟨vx, hvx, x0, xs, hxs, _, hx0, x1, xs1, hxs1, _, ⟨b, s, hη, hx1⟩, x2, xs2, hxs2, _, hx2, hxs3⟩ := hx'
  obtain ⟨vy, hvy, y0, ys, hys, _, hy0, y1, ys1, hys1, _, ⟨b2, s2, hη2, hy1⟩, y2, ys2, hys2, _, hy2, hys3⟩ := hy'
  have ex : a.eval x = .agg #[H1, .pointer (some ⟨b, off, none⟩), F1] := by
    rw [hvx]
    congr 1
    apply Array.ext'
    rw [hxs, hxs1, hxs2, show xs2 = [] from hxs3, show x0 = H1 from hx0, hx1, show x2 = F1 from hx2]
  have ey : a.eval y = .agg #[H2, .pointer (some ⟨b2, 0, none⟩), F2] := by
    rw [hvy]
    congr 1
    apply Array.ext'
    rw [hys, hys1, hys2, show ys2 = [] from hys3, show y0 = H2 from hy0, hy1, show y2 = F2 from hy2]
  obtain ⟨cur2, fr2, hb2⟩ := hS.block hm2' hη2
  obtain ⟨u0, hu0, hu1, hR0⟩ := hb2.reps.get (j := 0) (d := c) (by rw [h2]; rfl)
  have hcell : w.cell? ⟨b2, 0, none⟩ = some u0 := by
    rw [cell_of_row w b2 0 cur2 ob2.ty fr2 hb2.heap]
    rw [List.getElem?_take] at hu0
    split at hu0
    · simpa using hu0
    · cases hu0
  obtain ⟨cur, fr, hb⟩ := hS.block hm' hη
  have hle := hb.le
  have hsz := hb.size
  have hmk0 := hmk u0 hu1
  have hl0 : (mk u0).cells.toList = [u0] := by rw [hmk0]
  have hst := run_storeCells_fr P b off ob.ty fr (mk u0).cells.toList 0 cur w hb.heap hb.free (by rw [hl0]; simp; omega) (by rw [hl0]; simpa using hu1)
  have hsz2 : (mk u0).cells.size = P.cellsOf t := by rw [hmk0, hct]; rfl
  refine wp_val (v := .tuple #[]) (w' := w.setRow b (setAtV cur.toList off [u0]).toArray) ?_ (hK _ _ η ?_)
  · have hf : a.eval (.func f) = .func (.func f) #[] #[] := rfl
    rw [Nat.add_zero, hl0] at hst
    simp only [execOp, h, resolve, hf, Deferred.ofValue, Sem.run_bind, Sem.run_pure, Result.andThen_ok, invoke]
    have h3 := hr w ⟨b, off, none⟩ ⟨b2, 0, none⟩ u0 hcell hu1
    simp only [storeVar, Sem.run_bind, Sem.run_pure, Result.andThen_ok, run_sizeOf ht, hsz2, ne_eq, not_true, if_false, hl0, hst] at h3
    simp [ex, ey, h3]
  rw [app_upd]
  refine Sim.put (X := { Y with hp := upd Y.hp m _ }) (hS.write hm' ho hη (setAt ob.cells off [c]) _ ?_ ?_ ?_ ?_) (d := .tup []) (u := .tuple #[]) ⟨#[], rfl, rfl⟩ o.dst
  · simp [setAtV_length, hsz]
  · rw [setAt_length]; exact hle
  · rw [setAt_length]; exact hb.box
  · rw [setAt_length]
    have hRy : Reps w (Mx Y.hp η E.A) η [c] [u0] := ⟨u0, [], rfl, hu1, hR0, rfl⟩
    have := Reps.setAt hRy off hb.reps
    refine Reps.of_get (by simp [setAt_length, setAtV_length]; omega) (fun j d hd => ?_)
    obtain ⟨u, hu, h3, h4⟩ := this.get hd
    refine ⟨u, ?_, h3, h4⟩
    rw [List.toList_toArray, setAtV_take _ _ _ _ (by simp; omega)]
    exact hu
/-- An array in memory, sliced whole. -/
theorem spec_sliceArr {t : TypeId} {x : Operand} (h : o.op = .slice t x none none none) {n e sz : Nat} (ht : P.underlying t = some (.array n e)) (h2 : (P.info? e).isSome = true) (hsz : P.cellsOf e = sz) {m : Nm} {ob : Ob} (hx : ev X x = .ptr m 0) (hm : X.hp m = some ob) (hrow : ob.row = false) (hlt : ob.ty ≠ looseT)
    (hl : ob.cells.length = n * sz) (hn : n ≤ maxLen) (h0 : 0 < n * sz) : OpSpec Γ P o X { val := .msl m 0 n sz, F := [m] } := by
  intro E Y a w η hA hS K Q hK
  have hr := hS.ev x
  rw [hA.2.1 x (by simp [h, Op.operands]), hx] at hr
  obtain ⟨b, s, hη, he⟩ := hr
  have hm' : Y.hp m = some ob := (hA.2.2 m (by simp)).trans hm
  obtain ⟨cur, fr, hb⟩ := hS.block hm' hη
  have hs := hb.box hrow hlt
  have hbd := run_bounds (P := P) (X := X) (l := 0) (r := n) (len := n) (cap := n) hS none none (fun y hy => by simp at hy) false rfl rfl (Nat.zero_le _) (Nat.le_refl _)
  refine wp_val (v := .slice (some (if n = 0 then ⟨b, 0, none⟩ else Addr.add ⟨b, 0, none⟩ (0 * sz))) (n - 0) (n - 0)) (w' := w) (by
    simp only [execOp, h, he, Instr.sliceAt, Instr.sureAddr, Sem.run_bind, Sem.run_pure, run_underlying ht, Result.andThen_ok, Option.map_none] at hbd ⊢
    simp only [hbd, Result.andThen_ok, run_sizeOf h2, hsz]) (hK _ _ η ?_)
  rw [app_val]
  refine hS.put (d := .msl m 0 n sz) ⟨_, _, by rw [Nat.sub_zero], Nat.le_refl _, hn, .inr ⟨b, s, hη, ?_, by omega⟩⟩ o.dst
  by_cases e0 : n = 0
  · simp [e0]
  · simp [e0, add_at]
end
end Go.Ot
namespace Go.Ot
/-- A contract, told of what says more. -/
theorem Good.args {Γ : Gl} {P : Program} {f : FuncId} {args args' : List D} {ps : List Ob} {r : D} {ps' : List (Option Ob)} {ns : List Ob} (h : ∀ w M η vals, RepsA w M η args' vals → RepsA w M η args vals) (hG : Good Γ P f args ps r ps' ns) : Good Γ P f args' ps r ps' ns :=
  fun w A η vals h1 h2 h3 h4 h5 h6 h7 => hG w A η vals h1 h2 h3 h4 h5 h6 (h _ _ _ _ h7)
/-- A closed value as a tree. -/
theorem Good.plain1 {Γ : Gl} {P : Program} {f : FuncId} {args : List D} {x : T} {v : Value} {ps : List Ob} {r : D} {ps' : List (Option Ob)} {ns : List Ob} (hp : x.plain = some v) (hG : Good Γ P f (.t (.v v) :: args) ps r ps' ns) : Good Γ P f (.t x :: args) ps r ps' ns :=
  hG.args fun w M η vals h => by
    obtain ⟨u, us, rfl, h1, h2⟩ := h
    exact ⟨u, us, rfl, RepT.plain x u v h1 hp, h2⟩
end Go.Ot
namespace Go.Ot
section
variable {Γ : Gl} {P : Program} {X : St} {ops ops' : Array Oper} {rid i : Nat} {o : Oper} {os : List Oper} {acc : List Meta} {Q : Exit → St → Prop} {K : St → List Meta → Prop} {draw : Bool}
/-- A method of a plain value behind an interface that is an external, with plain arguments. -/
theorem spec_extma {rx : Operand} {name : String} {args : Array Operand} {tys : Array TypeId} {ty : TypeId} {v v' : Value} {f : FuncId} {res : Value} (us : Array Value) (h : o.op = .call { callee := .invoke rx name, args := args, argTypes := tys })
    (hx : (ev X rx).plain = some (.iface ty v)) (hp : args.toList.all (fun x => ((ev X x).plain).isSome) = true) (hu : args.map (fun x => ((ev X x).plain).getD undef) = us) (hm : ∀ w, (method (P.types.size + Made.depth) ty v name).run P w = .ok (f, v') w)
    (hr : ∀ w, (callFunc f (#[v'] ++ us)).run P w = .ok (.value res) w) : OpSpec Γ P o X { val := .t (.v res) } := by
  refine spec_plain (by intro cs b e; rw [h] at e; cases e) (fun z hz => ?_) res (fun w => ?_)
  · rw [h] at hz
    simp [Op.operands, Call.operands] at hz
    rcases hz with rfl | hz
    · rw [hx]; rfl
    · exact List.all_eq_true.1 hp z (by simpa using hz)
  · have hp' : (do pure (← program) : Sem Program).run P w = .ok P w := rfl
    have h0 : (#[Value.iface ty v] ++ us)[0]? = some (.iface ty v) := by rw [Array.getElem?_append_left (by simp)]; rfl
    have h1 : (#[Value.iface ty v] ++ us).extract 1 (#[Value.iface ty v] ++ us).size = us := by
      apply Array.ext'
      simp
    simp only [execOp, h, resolve, hx, Option.getD_some, hu, Sem.run_bind, Sem.run_pure, Result.andThen_ok, invoke, h0, h1, callMethod]
    have hm' := hm w
    simp [hm', hr]
theorem a_bygo {r : Rec} {X' : St} {i' : Nat} {gi : Nat} {want : Bool} (hsp : OpSpec Γ P o X r) (h : wpS Γ P ops rid i' os X' [] (regK ops' false Q)) (hg : o.guard = some (gi, want) := by rfl)
  (hb : wantIs (gslot ops X gi) want = some true := by (simp only [gslot, Option.bind_some, push_cast, reduceCtorEq, Nat.reduceAdd, Nat.reduceSub, Nat.reduceMul, Nat.reduceEqDiff, Nat.reduceLT, Nat.reduceLeDiff, Nat.reduceMod, Nat.reduceDiv, Int.reduceLE, Int.reduceLT, Int.reduceEq, Int.reduceToNat, Int.reduceAdd, Int.reduceSub, Int.reduceMul, Int.reduceNeg] <;> rfl))
  (hs : stepF P rid i X o = none := by (first | (simp only [push_cast, reduceCtorEq, Nat.reduceAdd, Nat.reduceSub, Nat.reduceMul, Nat.reduceEqDiff, Nat.reduceLT, Nat.reduceLeDiff, Nat.reduceMod, Nat.reduceDiv, Int.reduceLE, Int.reduceLT, Int.reduceEq, Int.reduceToNat, Int.reduceAdd, Int.reduceSub, Int.reduceMul, Int.reduceNeg]) | (simp only [stepF, callF])))
  (ht : Tidy r := by first | exact (fun _ => rfl) | exact (fun h => by cases h))
  (hX : X.app o.dst r = X' := by (simp only [push_cast, reduceCtorEq, Nat.reduceAdd, Nat.reduceEqDiff] <;> rfl))
  (hi : i + 1 = i' := by (simp only [Nat.reduceAdd] <;> rfl)) : wpS Γ P ops rid i (o :: os) X [] (regK ops' false Q) := s_by_if0 hg hb hs hsp ht hX hi h
end
end Go.Ot
namespace Go.Ot
/-- A reflectlite.Value. -/
theorem rep_val3 {w : World} {M : Nat → Prop} {η : Et} {H F v : Value} {m : Nm} {off : Nat} (h : Rep w M η (.agg [.t (.v H), .ptr m off, .t (.v F)]) v) : ∃ b s, η m = some (b, s) ∧ v = .agg #[H, .pointer (some ⟨b, off, none⟩), F] := by
  obtain ⟨vx, hvx, x0, xs, hxs, _, hx0, x1, xs1, hxs1, _, ⟨b, s, hη, hx1⟩, x2, xs2, hxs2, _, hx2, hxs3⟩ := h
  refine ⟨b, s, hη, ?_⟩
  rw [hvx]
  congr 1
  apply Array.ext'
  rw [hxs, hxs1, hxs2, show xs2 = [] from hxs3, show x0 = H from hx0, hx1, show x2 = F from hx2]
/-- reflectlite.ValueOf of a pointer in an interface. -/
theorem val_of_ptr {P : Program} {f PT : Nat} {H F : Value} (hr : ∀ (w : World) (a : Addr), (callFunc f #[.iface PT (.pointer (some a))]).run P w = .ok (.value (.agg #[H, .pointer (some ⟨w.heap.size, 0, none⟩), F])) (w.alloc (.cells #[.pointer (some a)] PT))) {m : Nm} {off : Nat} :
    ∀ w M η v, Rep w M η (.ifc PT (.ptr m off)) v → ∃ u, Rep w M η (.ptr m off) u ∧ u.oneCell' = true ∧ (callFunc f #[v]).run P w = .ok (.value (.agg #[H, .pointer (some ⟨w.heap.size, 0, none⟩), F])) (w.alloc (.cells #[u] PT)) := by
  rintro w M η v ⟨x, rfl, b, s, hη, rfl⟩
  exact ⟨_, ⟨b, s, hη, rfl⟩, rfl, hr w _⟩
theorem val_of_v {P : Program} {f TT : Nat} {H F v0 c : Value} (h1 : c.oneCell' = true) (hr : ∀ (w : World), (callFunc f #[.iface TT v0]).run P w = .ok (.value (.agg #[H, .pointer (some ⟨w.heap.size, 0, none⟩), F])) (w.alloc (.cells #[c] TT))) :
    ∀ w M η v, Rep w M η (.t (.v (.iface TT v0))) v → ∃ u, Rep w M η (.t (.v c)) u ∧ u.oneCell' = true ∧ (callFunc f #[v]).run P w = .ok (.value (.agg #[H, .pointer (some ⟨w.heap.size, 0, none⟩), F])) (w.alloc (.cells #[u] TT)) := by
  intro w M η v hv
  have hv : v = .iface TT v0 := hv
  subst hv
  exact ⟨c, rfl, h1, hr w⟩
/-- A method of a reflectlite.Value that looks at nothing but its type. -/
theorem val_type {P : Program} {f : Nat} {H F res : Value} {m : Nm} (hr : ∀ (w : World) (a : Addr), (callFunc f #[.agg #[H, .pointer (some a), F]]).run P w = .ok (.value res) w) :
    ∀ w M η v, Rep w M η (.agg [.t (.v H), .ptr m 0, .t (.v F)]) v → ∃ u, (callFunc f #[v]).run P w = .ok (.value u) w ∧ Rep w M η (.t (.v res)) u := by
  intro w M η v hv
  obtain ⟨b, s, _, rfl⟩ := rep_val3 hv
  exact ⟨res, hr w _, rfl⟩
/-- One that looks at the pointer that its variable has. -/
theorem val_isNil {P : Program} {f : Nat} {H F : Value} {m m2 : Nm} {off : Nat} (hr : ∀ (w : World) (a p : Addr), w.cell? a = some (.pointer (some p)) → (callFunc f #[.agg #[H, .pointer (some a), F]]).run P w = .ok (.value (.bool false)) w) :
    ∀ w M η v b s u0, Rep w M η (.agg [.t (.v H), .ptr m 0, .t (.v F)]) v → η m = some (b, s) → w.cell? ⟨b, 0, none⟩ = some u0 → Rep w M η (.ptr m2 off) u0 → ∃ u, (callFunc f #[v]).run P w = .ok (.value u) w ∧ Rep w M η (.t (.v (.bool false))) u := by
  intro w M η v b s u0 hv hη hc h0
  obtain ⟨b', s', hη', rfl⟩ := rep_val3 hv
  rw [hη] at hη'
  cases hη'
  obtain ⟨b2, s2, _, rfl⟩ := h0
  exact ⟨_, hr w _ _ hc, rfl⟩
theorem val_elem {P : Program} {f : Nat} {H F H' F' : Value} {m m2 : Nm} {off : Nat} (h1 : H'.oneCell' = true) (h2 : F'.oneCell' = true) (hr : ∀ (w : World) (a p : Addr), w.cell? a = some (.pointer (some p)) → (callFunc f #[.agg #[H, .pointer (some a), F]]).run P w = .ok (.value (.agg #[H', .pointer (some p), F'])) w) :
    ∀ w M η v b s u0, Rep w M η (.agg [.t (.v H), .ptr m 0, .t (.v F)]) v → η m = some (b, s) → w.cell? ⟨b, 0, none⟩ = some u0 → Rep w M η (.ptr m2 off) u0 → ∃ u, (callFunc f #[v]).run P w = .ok (.value u) w ∧ Rep w M η (.agg [.t (.v H'), .ptr m2 off, .t (.v F')]) u := by
  intro w M η v b s u0 hv hη hc h0
  obtain ⟨b', s', hη', rfl⟩ := rep_val3 hv
  rw [hη] at hη'
  cases hη'
  obtain ⟨b2, s2, hη2, rfl⟩ := h0
  exact ⟨_, hr w _ _ hc, _, rfl, _, _, rfl, h1, rfl, _, _, rfl, rfl, ⟨b2, s2, hη2, rfl⟩, _, _, rfl, h2, rfl, rfl⟩
end Go.Ot
namespace Go.Ot
section
variable {Γ : Gl} {P : Program} {X : St} {ops ops' : Array Oper} {rid i : Nat} {o : Oper} {os : List Oper} {acc : List Meta} {Q : Exit → St → Prop} {K : St → List Meta → Prop} {draw : Bool}
theorem a_callpgo {gi : Nat} {want : Bool} {g : Operand} {args : Array Operand} {tys : Array TypeId} {f : FuncId} {caps cargs : List D} {r : D} {ps : List Ob} {ps' : List (Option Ob)} {ns : List Ob} {X' : St} {i' : Nat} (nms len poi : List Nm) (sh : Bool) (hG : Good Γ P f cargs ps r ps' ns) (h : wpS Γ P ops rid i' os X' [] (regK ops' false Q)) (hg : o.guard = some (gi, want) := by rfl)
  (hb : wantIs (gslot ops X gi) want = some true := by (simp only [gslot, Option.bind_some, push_cast, reduceCtorEq, Nat.reduceAdd, Nat.reduceSub, Nat.reduceMul, Nat.reduceEqDiff, Nat.reduceLT, Nat.reduceLeDiff, Nat.reduceMod, Nat.reduceDiv, Int.reduceLE, Int.reduceLT, Int.reduceEq, Int.reduceToNat, Int.reduceAdd, Int.reduceSub, Int.reduceMul, Int.reduceNeg] <;> rfl))
  (ho : o.op = .call { callee := .value g, args := args, argTypes := tys } := by rfl)
  (hs : stepF P rid i X o = none := by (simp only [stepF, callF]))
  (hf : ev X g = .fn f caps := by (simp only [push_cast, reduceCtorEq, Nat.reduceAdd, Nat.reduceSub, Nat.reduceMul, Nat.reduceEqDiff, Nat.reduceLT, Nat.reduceLeDiff, Nat.reduceMod, Nat.reduceDiv, Int.reduceLE, Int.reduceLT, Int.reduceEq, Int.reduceToNat, Int.reduceAdd, Int.reduceSub, Int.reduceMul, Int.reduceNeg] <;> rfl))
  (hk : callOk P f = true := by (simp only [push_cast]))
  (hv : VwL (srcOf nms) X.hp (· ∈ len) cargs (args.toList.map (ev X) ++ caps) := by (simp [-List.map_map, -List.map_drop, -List.map_take, VwL_cons, VwL_nil, Vw_bad, Vw_t, Vw_ptr, Vw_msl, Vw_rop, Vw_agg, Vw_tup, Vw_ifc, VwT_refl, VwL_refl_map, Vw_nilmsl, VwT_msl, VwT_agg, VwT_v, VwT_nil, VwTs_cons, VwTs_nil, VwTs_refl, VwTs_app, List.take_of_length_le, srcL, notIn, ObsVw, SrcOk, pOk, Go.Ot.look, resP, resN, ev, evc, mkS, push_cast, srcOf, ObsAt, PoiOk]))
  (hobs : ObsAt (srcOf nms) (· ∈ len) X.hp nms ps := by (simp [-List.map_map, -List.map_drop, -List.map_take, VwL_cons, VwL_nil, Vw_bad, Vw_t, Vw_ptr, Vw_msl, Vw_rop, Vw_agg, Vw_tup, Vw_ifc, VwT_refl, VwL_refl_map, Vw_nilmsl, VwT_msl, VwT_agg, VwT_v, VwT_nil, VwTs_cons, VwTs_nil, VwTs_refl, VwTs_app, List.take_of_length_le, srcL, notIn, ObsVw, SrcOk, pOk, Go.Ot.look, resP, resN, ev, evc, mkS, push_cast, srcOf, ObsAt, PoiOk]))
  (hnd : nms.Nodup := by (simp [-List.map_map, -List.map_drop, -List.map_take, VwL_cons, VwL_nil, Vw_bad, Vw_t, Vw_ptr, Vw_msl, Vw_rop, Vw_agg, Vw_tup, Vw_ifc, VwT_refl, VwL_refl_map, Vw_nilmsl, VwT_msl, VwT_agg, VwT_v, VwT_nil, VwTs_cons, VwTs_nil, VwTs_refl, VwTs_app, List.take_of_length_le, srcL, notIn, ObsVw, SrcOk, pOk, Go.Ot.look, resP, resN, ev, evc, mkS, push_cast, srcOf, ObsAt, PoiOk]))
  (hdis : ∀ m ∈ len, m ∉ nms := by (simp))
  (hlex : ∀ m ∈ len, X.hp m ≠ none := by (simp [Go.Ot.look]))
  (hpoi : PoiOk poi nms ps ps' := by (simp [-List.map_map, -List.map_drop, -List.map_take, VwL_cons, VwL_nil, Vw_bad, Vw_t, Vw_ptr, Vw_msl, Vw_rop, Vw_agg, Vw_tup, Vw_ifc, VwT_refl, VwL_refl_map, Vw_nilmsl, VwT_msl, VwT_agg, VwT_v, VwT_nil, VwTs_cons, VwTs_nil, VwTs_refl, VwTs_app, List.take_of_length_le, srcL, notIn, ObsVw, SrcOk, pOk, Go.Ot.look, resP, resN, ev, evc, mkS, push_cast, srcOf, ObsAt, PoiOk]))
  (hnew : ∀ k, k < ns.length → X.hp (.r rid i k) = none := by (simp [Go.Ot.look]))
  (hsh : sh = false → r.flat = true ∧ (∀ ob ∈ ns, D.flatL ob.cells = true) ∧ ∀ ob, some ob ∈ ps' → D.flatL ob.cells = true := by (simp [-List.map_map, -List.map_drop, -List.map_take, D.flat, D.flatL, T.flat, T.flatL, flatL_map_t, push_cast]))
  (hlp : sh = true → ∀ m ∈ len, ∀ ob, X.hp m = some ob → ∀ p ∈ poi, D.hasL p ob.cells = false := by (simp [Go.Ot.look, D.hasL, D.has, push_cast]))
  (ht : Tidy (callRec X nms r ps' ns rid i sh len poi) := by first | exact (fun _ => rfl) | exact (fun h => by cases h))
  (hX : X.app o.dst (callRec X nms r ps' ns rid i sh len poi) = X' := by (simp only [push_cast, reduceCtorEq, Nat.reduceAdd, Nat.reduceEqDiff] <;> rfl))
  (hi : i + 1 = i' := by (simp only [Nat.reduceAdd] <;> rfl)) : wpS Γ P ops rid i (o :: os) X [] (regK ops' false Q) := s_by_if0 hg hb hs (spec_callp ho hf hk nms len poi hG hv hobs hnd hdis hlex hpoi rid i hnew sh hsh hlp) ht hX hi h
end
end Go.Ot

namespace Go.Ot
def gK (Γ : Gl) (P : Program) (ops : Array Oper) (rid : Nat) (m : Nm) (Ks : List Nat) (i : Nat) (os : List Oper) (X : St) (acc : List Rec) (K : St → List Rec → Prop) : Prop := (∀ k, os[k]? = ops[i + k]?) → i ≤ ops.size → ∃ rs Z, ChainK Γ P ops m Ks i X rs Z ∧ K Z (acc ++ rs)
def valOk (m : Nm) (Ks : List Nat) (ops : Array Oper) (rs : List Rec) : Bool :=
  let an := ancs ops.toList []
  (List.range rs.length).all fun k => match ops[k]?, rs[k]? with
    | some o, some r => (!r.val.has m || (match o.dst with | some s => Ks.contains s | none => true)) || (List.range rs.length).all fun i => ((match rs[i]? with | some r' => r'.poi.isEmpty | none => true) || i == k) || (an.getD k 0).testBit i
    | _, _ => true
theorem valOk_spec {m : Nm} {Ks : List Nat} {ops : Array Oper} {rs : List Rec} (h : valOk m Ks ops rs = true) (k : Nat) (o : Oper) (r : Rec) (ho : ops[k]? = some o) (hr : rs[k]? = some r) :
    r.val.has m = false ∨ (∀ s, o.dst = some s → s ∈ Ks) ∨ ∀ (i : Nat) r', rs[i]? = some r' → r'.poi ≠ [] → i ≠ k → ((ancs ops.toList []).getD k 0).testBit i = true := by
  simp only [valOk, List.all_eq_true, List.mem_range] at h
  have hk := h k (List.getElem?_eq_some_iff.1 hr).1
  simp only [ho, hr, Bool.or_eq_true, List.all_eq_true, List.mem_range] at hk
  rcases hk with (h1 | h1) | h1
  · exact .inl (by simpa using h1)
  · refine .inr (.inl fun s hs => ?_)
    rw [hs] at h1
    simpa using h1
  · refine .inr (.inr fun i r' hi hp hne => ?_)
    have := h1 i (List.getElem?_eq_some_iff.1 hi).1
    rw [hi] at this
    simp only at this
    rcases this with (h2 | h2) | h2
    · exact absurd (by simpa using h2) hp
    · exact absurd (by simpa using h2) hne
    · exact h2
theorem look_all {Q : Nm → Ob → Prop} : ∀ {L : List (Nm × Ob)}, (∀ p ∈ L, Q p.1 p.2) → ∀ m ob, look L m = some ob → Q m ob
  | [], _, _, _, h => by simp [look] at h
  | (m', o') :: L, hL, m, ob, h => by
    simp only [look] at h
    split at h
    · rename_i e; cases h; subst e; exact hL (m', o') (by simp)
    · exact look_all (fun p hp => hL p (List.mem_cons_of_mem _ hp)) m ob h
section
variable {Γ : Gl} {P : Program} {X : St} {ops : Array Oper} {rid i : Nat} {o : Oper} {os : List Oper} {m : Nm} {Ks : List Nat} {acc : List Rec} {Q : Exit → St → Prop} {K : St → List Rec → Prop}
theorem g_start (m : Nm) (Ks : List Nat) (KO : List Nm) {l : List Oper} (hl : ops.toList = l) (h : gK Γ P ops rid m Ks 0 l X [] (fun Z rs => GOk ops X rs m [m] Ks KO ∧ Q .normal Z)) : wpK Γ P (.region rid ops true) Q X := by
  subst hl
  obtain ⟨rs, Z, h1, h2, h3⟩ := h (fun k => by simp) (Nat.zero_le _)
  exact k_regionG ⟨m, [m], Ks, KO, rs, Z, h1, h2, h3⟩
theorem g_startM (d0 : Nm) (ms : List Nm) (Ks : List Nat) (KO : List Nm) {l : List Oper} (hl : ops.toList = l) (h : gK Γ P ops rid d0 Ks 0 l X [] (fun Z rs => GOk ops X rs d0 ms Ks KO ∧ Q .normal Z)) : wpK Γ P (.region rid ops true) Q X := by
  subst hl
  obtain ⟨rs, Z, h1, h2, h3⟩ := h (fun k => by simp) (Nat.zero_le _)
  exact k_regionG ⟨d0, ms, Ks, KO, rs, Z, h1, h2, h3⟩
theorem g_nil (h : K X acc) : gK Γ P ops rid m Ks i [] X acc K := fun hos hle => by
  have hi : i = ops.size := by
    have := hos 0
    simp only [List.getElem?_nil, Nat.add_zero] at this
    have := Array.getElem?_eq_none_iff.1 this.symm
    omega
  exact ⟨[], X, .nil hi, by rwa [List.append_nil]⟩
theorem g_by {r : Rec} {X' : St} {i' : Nat} {acc' : List Rec} (hsp : OpSpec Γ P o X r) (h : gK Γ P ops rid m Ks i' os X' acc' K) (hg : o.guard = none := by rfl)
  (hX : X.app o.dst r = X' := by (simp only [push_cast, reduceCtorEq, Nat.reduceAdd, Nat.reduceEqDiff] <;> rfl))
  (hk : killOk m Ks X r := by (first | exact .inl rfl | (refine .inr ?_; simp [D.poi, D.has, D.hasL, push_cast])))
  (ha : acc ++ [r] = acc' := by (simp only [List.nil_append, List.cons_append] <;> rfl))
  (hi' : i + 1 = i' := by (simp only [Nat.reduceAdd] <;> rfl))   : gK Γ P ops rid m Ks i (o :: os) X acc K := by
  subst hX ha hi'
  intro hos hle
  have hi : ops[i]? = some o := by simpa using (hos 0).symm
  obtain ⟨rs, Z, h1, h2⟩ := h (fun k => by
    have := hos (k + 1)
    rw [List.getElem?_cons_succ] at this
    rw [this]
    congr 1
    omega) (Array.getElem?_eq_some_iff.1 hi).1
  exact ⟨r :: rs, Z, .cons hi (.inl ⟨by simp [wantD, hg], hsp⟩) hk h1, by simpa using h2⟩
theorem g_op {r : Rec} {c : Prop} {X' : St} {i' : Nat} {acc' : List Rec} (h : gK Γ P ops rid m Ks i' os X' acc' K) (hg : o.guard = none := by rfl)
  (hs : stepF P rid i X o = some (r, c) := by (simp (disch := first | omega | (simp only [List.length_drop, List.length_take, List.length_map, List.length_append, List.length_cons, List.length_nil, List.length_replicate, List.length_set] <;> omega) | (simp only [push_cast] <;> omega) | fail) only [push_cast, reduceCtorEq, Nat.reduceAdd, Nat.reduceSub, Nat.reduceMul, Nat.reduceEqDiff, Nat.reduceLT, Nat.reduceLeDiff, Nat.reduceMod, Nat.reduceDiv, Int.reduceLE, Int.reduceLT, Int.reduceEq, Int.reduceToNat, Int.reduceAdd, Int.reduceSub, Int.reduceMul, Int.reduceNeg] <;> rfl))
  (hc : c := by (first | exact True.intro | omega | (simp only [List.length_drop, List.length_take, List.length_map, List.length_append, List.length_cons, List.length_nil, List.length_replicate, List.length_set] <;> omega) | (simp (disch := first | omega | (simp only [List.length_drop, List.length_take, List.length_map, List.length_append, List.length_cons, List.length_nil, List.length_replicate, List.length_set] <;> omega) | (simp only [push_cast] <;> omega) | fail) only [push_cast, reduceCtorEq, Nat.reduceAdd, Nat.reduceSub, Nat.reduceMul, Nat.reduceEqDiff, Nat.reduceLT, Nat.reduceLeDiff, Nat.reduceMod, Nat.reduceDiv, Int.reduceLE, Int.reduceLT, Int.reduceEq, Int.reduceToNat, Int.reduceAdd, Int.reduceSub, Int.reduceMul, Int.reduceNeg] <;> (try simp only [List.length_drop, List.length_take, List.length_map, List.length_append, List.length_cons, List.length_nil, List.length_replicate, List.length_set]) <;> omega)))
  (hX : X.app o.dst r = X' := by (simp only [push_cast, reduceCtorEq, Nat.reduceAdd, Nat.reduceEqDiff] <;> rfl))
  (hk : killOk m Ks X r := by (first | exact .inl rfl | (refine .inr ?_; simp [D.poi, D.has, D.hasL, push_cast])))
  (ha : acc ++ [r] = acc' := by (simp only [List.nil_append, List.cons_append] <;> rfl))
  (hi' : i + 1 = i' := by (simp only [Nat.reduceAdd] <;> rfl))   : gK Γ P ops rid m Ks i (o :: os) X acc K := g_by (stepF_sound hs hc).1 h hg hX hk ha hi'

theorem g_callp {g : Operand} {args : Array Operand} {tys : Array TypeId} {f : FuncId} {caps cargs : List D} {r : D} {ps : List Ob} {ps' : List (Option Ob)} {ns : List Ob} {X' : St} {i' : Nat} {r0 : Rec} {acc' : List Rec} (nms len poi : List Nm) (sh : Bool) (hG : Good Γ P f cargs ps r ps' ns) (h : gK Γ P ops rid m Ks i' os X' acc' K) (hg : o.guard = none := by rfl)
  (ho : o.op = .call { callee := .value g, args := args, argTypes := tys } := by rfl)
  (hs : stepF P rid i X o = none := by (simp only [stepF, callF]))
  (hf : ev X g = .fn f caps := by (simp only [push_cast, reduceCtorEq, Nat.reduceAdd, Nat.reduceSub, Nat.reduceMul, Nat.reduceEqDiff, Nat.reduceLT, Nat.reduceLeDiff, Nat.reduceMod, Nat.reduceDiv, Int.reduceLE, Int.reduceLT, Int.reduceEq, Int.reduceToNat, Int.reduceAdd, Int.reduceSub, Int.reduceMul, Int.reduceNeg] <;> rfl))
  (hk : callOk P f = true := by (simp only [push_cast]))
  (hv : VwL (srcOf nms) X.hp (· ∈ len) cargs (args.toList.map (ev X) ++ caps) := by (simp [-List.map_map, -List.map_drop, -List.map_take, VwL_cons, VwL_nil, Vw_bad, Vw_t, Vw_ptr, Vw_msl, Vw_rop, Vw_agg, Vw_tup, Vw_ifc, VwT_refl, VwL_refl_map, Vw_nilmsl, VwT_msl, VwT_agg, VwT_v, VwT_nil, VwTs_cons, VwTs_nil, VwTs_refl, VwTs_app, List.take_of_length_le, srcL, notIn, ObsVw, SrcOk, pOk, Go.Ot.look, resP, resN, ev, evc, mkS, push_cast, srcOf, ObsAt, PoiOk]))
  (hobs : ObsAt (srcOf nms) (· ∈ len) X.hp nms ps := by (simp [-List.map_map, -List.map_drop, -List.map_take, VwL_cons, VwL_nil, Vw_bad, Vw_t, Vw_ptr, Vw_msl, Vw_rop, Vw_agg, Vw_tup, Vw_ifc, VwT_refl, VwL_refl_map, Vw_nilmsl, VwT_msl, VwT_agg, VwT_v, VwT_nil, VwTs_cons, VwTs_nil, VwTs_refl, VwTs_app, List.take_of_length_le, srcL, notIn, ObsVw, SrcOk, pOk, Go.Ot.look, resP, resN, ev, evc, mkS, push_cast, srcOf, ObsAt, PoiOk]))
  (hnd : nms.Nodup := by (simp [-List.map_map, -List.map_drop, -List.map_take, VwL_cons, VwL_nil, Vw_bad, Vw_t, Vw_ptr, Vw_msl, Vw_rop, Vw_agg, Vw_tup, Vw_ifc, VwT_refl, VwL_refl_map, Vw_nilmsl, VwT_msl, VwT_agg, VwT_v, VwT_nil, VwTs_cons, VwTs_nil, VwTs_refl, VwTs_app, List.take_of_length_le, srcL, notIn, ObsVw, SrcOk, pOk, Go.Ot.look, resP, resN, ev, evc, mkS, push_cast, srcOf, ObsAt, PoiOk]))
  (hdis : ∀ m ∈ len, m ∉ nms := by (simp))
  (hlex : ∀ m ∈ len, X.hp m ≠ none := by (simp [Go.Ot.look]))
  (hpoi : PoiOk poi nms ps ps' := by (simp [-List.map_map, -List.map_drop, -List.map_take, VwL_cons, VwL_nil, Vw_bad, Vw_t, Vw_ptr, Vw_msl, Vw_rop, Vw_agg, Vw_tup, Vw_ifc, VwT_refl, VwL_refl_map, Vw_nilmsl, VwT_msl, VwT_agg, VwT_v, VwT_nil, VwTs_cons, VwTs_nil, VwTs_refl, VwTs_app, List.take_of_length_le, srcL, notIn, ObsVw, SrcOk, pOk, Go.Ot.look, resP, resN, ev, evc, mkS, push_cast, srcOf, ObsAt, PoiOk]))
  (hnew : ∀ k, k < ns.length → X.hp (.r rid i k) = none := by (simp [Go.Ot.look]))
  (hsh : sh = false → r.flat = true ∧ (∀ ob ∈ ns, D.flatL ob.cells = true) ∧ ∀ ob, some ob ∈ ps' → D.flatL ob.cells = true := by (simp [-List.map_map, -List.map_drop, -List.map_take, D.flat, D.flatL, T.flat, T.flatL, flatL_map_t, push_cast]))
  (hlp : sh = true → ∀ m ∈ len, ∀ ob, X.hp m = some ob → ∀ p ∈ poi, D.hasL p ob.cells = false := by (simp [Go.Ot.look, D.hasL, D.has, push_cast]))
  (hr0 : callRec X nms r ps' ns rid i sh len poi = r0 := by (simp only [push_cast, reduceCtorEq, Nat.reduceAdd, Nat.reduceEqDiff] <;> rfl))
  (hX : X.app o.dst r0 = X' := by (simp only [push_cast, reduceCtorEq, Nat.reduceAdd, Nat.reduceEqDiff] <;> rfl))
  (hkl : killOk m Ks X r0 := by (first | exact .inl rfl | (refine .inr ?_; simp [D.poi, D.has, D.hasL, push_cast])))
  (ha : acc ++ [r0] = acc' := by (simp only [List.nil_append, List.cons_append] <;> rfl))
  (hi' : i + 1 = i' := by (simp only [Nat.reduceAdd] <;> rfl))   : gK Γ P ops rid m Ks i (o :: os) X acc K := by
  subst hr0
  exact g_by (spec_callp ho hf hk nms len poi hG hv hobs hnd hdis hlex hpoi rid i hnew sh hsh hlp) h hg hX hkl ha hi'

theorem g_ok {KO : List Nm} {L : List (Nm × Ob)} {sl : List D} {rs : List Rec} (h1 : gregOk ops (toGs m Ks KO ⟨sl, look L⟩ ops.toList rs) = true) (h6 : valOk m Ks ops rs = true)
  (h2 : ∀ r ∈ rs, r.poi = [] ∨ r.poi = [m] := by simp)
  (h3 : slFree m Ks 0 sl = true := by simp [-List.map_map, slFree, D.has, D.hasL, push_cast])
  (h4 : ∀ p ∈ L, p.1 ∉ KO → D.hasL m p.2.cells = false := by simp [-List.map_map, D.has, D.hasL, push_cast])
  (h5 : ∀ r ∈ rs, ∀ p ∈ r.upd, p.1 ∉ KO → ∀ ob, p.2 = some ob → D.hasL m ob.cells = false := by simp [-List.map_map, D.has, D.hasL, push_cast])
  (h7 : ∀ s ∈ Ks, s < sl.length := by simp) : GOk ops ⟨sl, look L⟩ rs m [m] Ks KO := ⟨h1, fun r hr => (h2 r hr).elim .inl (fun e => .inr ⟨m, by simp, e⟩), fun m2 e => by obtain rfl := List.mem_singleton.1 e; exact h3, fun m2 e m' ob hm h => by obtain rfl := List.mem_singleton.1 e; exact look_all (Q := fun m' ob => m' ∉ KO → D.hasL m2 ob.cells = false) (fun p hp => h4 p hp) m' ob h hm, fun m2 e k r hk => by obtain rfl := List.mem_singleton.1 e; exact .inl (h5 r (List.mem_of_getElem? hk)), fun m2 e k o r => by obtain rfl := List.mem_singleton.1 e; exact valOk_spec h6 k o r, h7⟩
/-- All operations from the n-th on come behind all that forget a name. -/
def lateOk (n : Nat) (ops : Array Oper) (rs : List Rec) : Bool :=
  let an := ancs ops.toList []
  (List.range rs.length).all fun k => decide (k < n) || (List.range rs.length).all fun i => ((match rs[i]? with | some r' => r'.poi.isEmpty | none => true) || i == k) || (an.getD k 0).testBit i
theorem lateOk_spec {n : Nat} {ops : Array Oper} {rs : List Rec} (h : lateOk n ops rs = true) (k : Nat) (hk : k < rs.length) (hn : n ≤ k) : ∀ (i : Nat) r', rs[i]? = some r' → r'.poi ≠ [] → i ≠ k → ((ancs ops.toList []).getD k 0).testBit i = true := fun i r' hi hp hne => by
  simp only [lateOk, List.all_eq_true, List.mem_range] at h
  have h1 := h k hk
  rw [Bool.or_eq_true] at h1
  rcases h1 with h1 | h1
  · have := of_decide_eq_true h1; omega
  · rw [List.all_eq_true] at h1
    have h2 := h1 i (List.mem_range.2 (List.getElem?_eq_some_iff.1 hi).1)
    rw [hi] at h2
    simp only [Bool.or_eq_true] at h2
    rcases h2 with (h2 | h2) | h2
    · exact absurd (by simpa using h2) hp
    · exact absurd (by simpa using h2) hne
    · exact h2
theorem m_ok (n : Nat) {d0 : Nm} {ms KO : List Nm} {L : List (Nm × Ob)} {sl : List D} {rs : List Rec} (h1 : gregOk ops (toGs d0 Ks KO ⟨sl, look L⟩ ops.toList rs) = true) (h6 : (ms.all fun m => valOk m Ks ops rs) = true) (h8 : lateOk n ops rs = true)
  (h2 : ∀ r ∈ rs, r.poi = [] ∨ ∃ m ∈ ms, r.poi = [m] := by simp)
  (h3 : ∀ m ∈ ms, slFree m Ks 0 sl = true := by simp [-List.map_map, slFree, D.has, D.hasL, push_cast])
  (h4 : ∀ m ∈ ms, ∀ p ∈ L, p.1 ∉ KO → D.hasL m p.2.cells = false := by simp [-List.map_map, D.has, D.hasL, push_cast])
  (h5 : ∀ m ∈ ms, ∀ r ∈ rs.take n, ∀ p ∈ r.upd, p.1 ∉ KO → ∀ ob, p.2 = some ob → D.hasL m ob.cells = false := by simp [-List.map_map, D.has, D.hasL, push_cast])
  (h7 : ∀ s ∈ Ks, s < sl.length := by simp) : GOk ops ⟨sl, look L⟩ rs d0 ms Ks KO := ⟨h1, h2, h3, fun m e m' ob hm h => look_all (Q := fun m' ob => m' ∉ KO → D.hasL m ob.cells = false) (fun p hp => h4 m e p hp) m' ob h hm, fun m e k r hk => by
    by_cases hn : k < n
    · exact .inl (h5 m e r (List.mem_of_getElem? (l := rs.take n) (i := k) (by rw [List.getElem?_take]; simp [hn, hk])))
    · exact .inr (lateOk_spec h8 k (List.getElem?_eq_some_iff.1 hk).1 (by omega)), fun m e k o r => valOk_spec (List.all_eq_true.1 h6 m e) k o r, h7⟩
theorem l_ok (n : Nat) {KO : List Nm} {L : List (Nm × Ob)} {sl : List D} {rs : List Rec} (h1 : gregOk ops (toGs m Ks KO ⟨sl, look L⟩ ops.toList rs) = true) (h6 : valOk m Ks ops rs = true) (h8 : lateOk n ops rs = true)
  (h2 : ∀ r ∈ rs, r.poi = [] ∨ r.poi = [m] := by simp)
  (h3 : slFree m Ks 0 sl = true := by simp [-List.map_map, slFree, D.has, D.hasL, push_cast])
  (h4 : ∀ p ∈ L, p.1 ∉ KO → D.hasL m p.2.cells = false := by simp [-List.map_map, D.has, D.hasL, push_cast])
  (h5 : ∀ r ∈ rs.take n, ∀ p ∈ r.upd, p.1 ∉ KO → ∀ ob, p.2 = some ob → D.hasL m ob.cells = false := by simp [-List.map_map, D.has, D.hasL, push_cast])
  (h7 : ∀ s ∈ Ks, s < sl.length := by simp) : GOk ops ⟨sl, look L⟩ rs m [m] Ks KO := m_ok n h1 (by rw [List.all_cons, h6]; rfl) h8 (fun r hr => (h2 r hr).elim .inl (fun e => .inr ⟨m, by simp, e⟩)) (fun m2 e => by obtain rfl := List.mem_singleton.1 e; exact h3) (fun m2 e => by obtain rfl := List.mem_singleton.1 e; exact h4) (fun m2 e => by obtain rfl := List.mem_singleton.1 e; exact h5) h7
end
end Go.Ot

namespace Go.Ot
theorem want_of {ops : Array Oper} {X : St} {o : Oper} {gi : Nat} {want b : Bool} (hg : o.guard = some (gi, want)) (hb : wantIs (gslot ops X gi) want = some b) : wantD ops X o = some b := by
  unfold gslot at hb
  unfold wantD
  rw [hg]
  simp only
  split at hb
  · rename_i s hs
    rw [hs]
    exact hb
  · simp [wantIs] at hb
section
variable {Γ : Gl} {P : Program} {X : St} {ops : Array Oper} {rid i : Nat} {o : Oper} {os : List Oper} {m : Nm} {Ks : List Nat} {acc : List Rec} {Q : Exit → St → Prop} {K : St → List Rec → Prop}
theorem g_bygo {gi : Nat} {want : Bool} {r : Rec} {X' : St} {i' : Nat} {acc' : List Rec} (hsp : OpSpec Γ P o X r) (h : gK Γ P ops rid m Ks i' os X' acc' K) (hg : o.guard = some (gi, want) := by rfl)
  (hb : wantIs (gslot ops X gi) want = some true := by (simp only [gslot, Option.bind_some, push_cast, reduceCtorEq, Nat.reduceAdd, Nat.reduceSub, Nat.reduceMul, Nat.reduceEqDiff, Nat.reduceLT, Nat.reduceLeDiff, Nat.reduceMod, Nat.reduceDiv, Int.reduceLE, Int.reduceLT, Int.reduceEq, Int.reduceToNat, Int.reduceAdd, Int.reduceSub, Int.reduceMul, Int.reduceNeg] <;> rfl))
  (hX : X.app o.dst r = X' := by (simp only [push_cast, reduceCtorEq, Nat.reduceAdd, Nat.reduceEqDiff] <;> rfl))
  (hk : killOk m Ks X r := by (first | exact .inl rfl | (refine .inr ?_; simp [D.poi, D.has, D.hasL, push_cast])))
  (ha : acc ++ [r] = acc' := by (simp only [List.nil_append, List.cons_append] <;> rfl))
  (hi' : i + 1 = i' := by (simp only [Nat.reduceAdd] <;> rfl))   : gK Γ P ops rid m Ks i (o :: os) X acc K := by
  subst hX ha hi'
  intro hos hle
  have hi : ops[i]? = some o := by simpa using (hos 0).symm
  obtain ⟨rs, Z, h1, h2⟩ := h (fun k => by
    have := hos (k + 1)
    rw [List.getElem?_cons_succ] at this
    rw [this]
    congr 1
    omega) (Array.getElem?_eq_some_iff.1 hi).1
  exact ⟨r :: rs, Z, .cons hi (.inl ⟨want_of hg hb, hsp⟩) hk h1, by simpa using h2⟩

theorem g_go {gi : Nat} {want : Bool} {r : Rec} {c : Prop} {X' : St} {i' : Nat} {acc' : List Rec} (h : gK Γ P ops rid m Ks i' os X' acc' K) (hg : o.guard = some (gi, want) := by rfl)
  (hb : wantIs (gslot ops X gi) want = some true := by (simp only [gslot, Option.bind_some, push_cast, reduceCtorEq, Nat.reduceAdd, Nat.reduceSub, Nat.reduceMul, Nat.reduceEqDiff, Nat.reduceLT, Nat.reduceLeDiff, Nat.reduceMod, Nat.reduceDiv, Int.reduceLE, Int.reduceLT, Int.reduceEq, Int.reduceToNat, Int.reduceAdd, Int.reduceSub, Int.reduceMul, Int.reduceNeg] <;> rfl))
  (hs : stepF P rid i X o = some (r, c) := by (simp (disch := first | omega | (simp only [List.length_drop, List.length_take, List.length_map, List.length_append, List.length_cons, List.length_nil, List.length_replicate, List.length_set] <;> omega) | (simp only [push_cast] <;> omega) | fail) only [push_cast, reduceCtorEq, Nat.reduceAdd, Nat.reduceSub, Nat.reduceMul, Nat.reduceEqDiff, Nat.reduceLT, Nat.reduceLeDiff, Nat.reduceMod, Nat.reduceDiv, Int.reduceLE, Int.reduceLT, Int.reduceEq, Int.reduceToNat, Int.reduceAdd, Int.reduceSub, Int.reduceMul, Int.reduceNeg] <;> rfl))
  (hc : c := by (first | exact True.intro | omega | (simp only [List.length_drop, List.length_take, List.length_map, List.length_append, List.length_cons, List.length_nil, List.length_replicate, List.length_set] <;> omega) | (simp (disch := first | omega | (simp only [List.length_drop, List.length_take, List.length_map, List.length_append, List.length_cons, List.length_nil, List.length_replicate, List.length_set] <;> omega) | (simp only [push_cast] <;> omega) | fail) only [push_cast, reduceCtorEq, Nat.reduceAdd, Nat.reduceSub, Nat.reduceMul, Nat.reduceEqDiff, Nat.reduceLT, Nat.reduceLeDiff, Nat.reduceMod, Nat.reduceDiv, Int.reduceLE, Int.reduceLT, Int.reduceEq, Int.reduceToNat, Int.reduceAdd, Int.reduceSub, Int.reduceMul, Int.reduceNeg] <;> (try simp only [List.length_drop, List.length_take, List.length_map, List.length_append, List.length_cons, List.length_nil, List.length_replicate, List.length_set]) <;> omega)))
  (hX : X.app o.dst r = X' := by (simp only [push_cast, reduceCtorEq, Nat.reduceAdd, Nat.reduceEqDiff] <;> rfl))
  (hk : killOk m Ks X r := by (first | exact .inl rfl | (refine .inr ?_; simp [D.poi, D.has, D.hasL, push_cast])))
  (ha : acc ++ [r] = acc' := by (simp only [List.nil_append, List.cons_append] <;> rfl))
  (hi' : i + 1 = i' := by (simp only [Nat.reduceAdd] <;> rfl))   : gK Γ P ops rid m Ks i (o :: os) X acc K := g_bygo (stepF_sound hs hc).1 h hg hb hX hk ha hi'

theorem g_callpgo {gi : Nat} {want : Bool} {g : Operand} {args : Array Operand} {tys : Array TypeId} {f : FuncId} {caps cargs : List D} {r : D} {ps : List Ob} {ps' : List (Option Ob)} {ns : List Ob} {X' : St} {i' : Nat} {r0 : Rec} {acc' : List Rec} (nms len poi : List Nm) (sh : Bool) (hG : Good Γ P f cargs ps r ps' ns) (h : gK Γ P ops rid m Ks i' os X' acc' K) (hg : o.guard = some (gi, want) := by rfl)
  (hb : wantIs (gslot ops X gi) want = some true := by (simp only [gslot, Option.bind_some, push_cast, reduceCtorEq, Nat.reduceAdd, Nat.reduceSub, Nat.reduceMul, Nat.reduceEqDiff, Nat.reduceLT, Nat.reduceLeDiff, Nat.reduceMod, Nat.reduceDiv, Int.reduceLE, Int.reduceLT, Int.reduceEq, Int.reduceToNat, Int.reduceAdd, Int.reduceSub, Int.reduceMul, Int.reduceNeg] <;> rfl))
  (ho : o.op = .call { callee := .value g, args := args, argTypes := tys } := by rfl)
  (hs : stepF P rid i X o = none := by (simp only [stepF, callF]))
  (hf : ev X g = .fn f caps := by (simp only [push_cast, reduceCtorEq, Nat.reduceAdd, Nat.reduceSub, Nat.reduceMul, Nat.reduceEqDiff, Nat.reduceLT, Nat.reduceLeDiff, Nat.reduceMod, Nat.reduceDiv, Int.reduceLE, Int.reduceLT, Int.reduceEq, Int.reduceToNat, Int.reduceAdd, Int.reduceSub, Int.reduceMul, Int.reduceNeg] <;> rfl))
  (hk : callOk P f = true := by (simp only [push_cast]))
  (hv : VwL (srcOf nms) X.hp (· ∈ len) cargs (args.toList.map (ev X) ++ caps) := by (simp [-List.map_map, -List.map_drop, -List.map_take, VwL_cons, VwL_nil, Vw_bad, Vw_t, Vw_ptr, Vw_msl, Vw_rop, Vw_agg, Vw_tup, Vw_ifc, VwT_refl, VwL_refl_map, Vw_nilmsl, VwT_msl, VwT_agg, VwT_v, VwT_nil, VwTs_cons, VwTs_nil, VwTs_refl, VwTs_app, List.take_of_length_le, srcL, notIn, ObsVw, SrcOk, pOk, Go.Ot.look, resP, resN, ev, evc, mkS, push_cast, srcOf, ObsAt, PoiOk]))
  (hobs : ObsAt (srcOf nms) (· ∈ len) X.hp nms ps := by (simp [-List.map_map, -List.map_drop, -List.map_take, VwL_cons, VwL_nil, Vw_bad, Vw_t, Vw_ptr, Vw_msl, Vw_rop, Vw_agg, Vw_tup, Vw_ifc, VwT_refl, VwL_refl_map, Vw_nilmsl, VwT_msl, VwT_agg, VwT_v, VwT_nil, VwTs_cons, VwTs_nil, VwTs_refl, VwTs_app, List.take_of_length_le, srcL, notIn, ObsVw, SrcOk, pOk, Go.Ot.look, resP, resN, ev, evc, mkS, push_cast, srcOf, ObsAt, PoiOk]))
  (hnd : nms.Nodup := by (simp [-List.map_map, -List.map_drop, -List.map_take, VwL_cons, VwL_nil, Vw_bad, Vw_t, Vw_ptr, Vw_msl, Vw_rop, Vw_agg, Vw_tup, Vw_ifc, VwT_refl, VwL_refl_map, Vw_nilmsl, VwT_msl, VwT_agg, VwT_v, VwT_nil, VwTs_cons, VwTs_nil, VwTs_refl, VwTs_app, List.take_of_length_le, srcL, notIn, ObsVw, SrcOk, pOk, Go.Ot.look, resP, resN, ev, evc, mkS, push_cast, srcOf, ObsAt, PoiOk]))
  (hdis : ∀ m ∈ len, m ∉ nms := by (simp))
  (hlex : ∀ m ∈ len, X.hp m ≠ none := by (simp [Go.Ot.look]))
  (hpoi : PoiOk poi nms ps ps' := by (simp [-List.map_map, -List.map_drop, -List.map_take, VwL_cons, VwL_nil, Vw_bad, Vw_t, Vw_ptr, Vw_msl, Vw_rop, Vw_agg, Vw_tup, Vw_ifc, VwT_refl, VwL_refl_map, Vw_nilmsl, VwT_msl, VwT_agg, VwT_v, VwT_nil, VwTs_cons, VwTs_nil, VwTs_refl, VwTs_app, List.take_of_length_le, srcL, notIn, ObsVw, SrcOk, pOk, Go.Ot.look, resP, resN, ev, evc, mkS, push_cast, srcOf, ObsAt, PoiOk]))
  (hnew : ∀ k, k < ns.length → X.hp (.r rid i k) = none := by (simp [Go.Ot.look]))
  (hsh : sh = false → r.flat = true ∧ (∀ ob ∈ ns, D.flatL ob.cells = true) ∧ ∀ ob, some ob ∈ ps' → D.flatL ob.cells = true := by (simp [-List.map_map, -List.map_drop, -List.map_take, D.flat, D.flatL, T.flat, T.flatL, flatL_map_t, push_cast]))
  (hlp : sh = true → ∀ m ∈ len, ∀ ob, X.hp m = some ob → ∀ p ∈ poi, D.hasL p ob.cells = false := by (simp [Go.Ot.look, D.hasL, D.has, push_cast]))
  (hr0 : callRec X nms r ps' ns rid i sh len poi = r0 := by (simp only [push_cast, reduceCtorEq, Nat.reduceAdd, Nat.reduceEqDiff] <;> rfl))
  (hX : X.app o.dst r0 = X' := by (simp only [push_cast, reduceCtorEq, Nat.reduceAdd, Nat.reduceEqDiff] <;> rfl))
  (hkl : killOk m Ks X r0 := by (first | exact .inl rfl | (refine .inr ?_; simp [D.poi, D.has, D.hasL, push_cast])))
  (ha : acc ++ [r0] = acc' := by (simp only [List.nil_append, List.cons_append] <;> rfl))
  (hi' : i + 1 = i' := by (simp only [Nat.reduceAdd] <;> rfl))   : gK Γ P ops rid m Ks i (o :: os) X acc K := by
  subst hr0
  exact g_bygo (spec_callp ho hf hk nms len poi hG hv hobs hnd hdis hlex hpoi rid i hnew sh hsh hlp) h hg hb hX hkl ha hi'

theorem g_no {gi : Nat} {want : Bool} {X' : St} {i' : Nat} {acc' : List Rec} (h : gK Γ P ops rid m Ks i' os X' acc' K) (hg : o.guard = some (gi, want) := by rfl)
  (hb : wantIs (gslot ops X gi) want = some false := by (simp only [gslot, Option.bind_some, push_cast, reduceCtorEq, Nat.reduceAdd, Nat.reduceSub, Nat.reduceMul, Nat.reduceEqDiff, Nat.reduceLT, Nat.reduceLeDiff, Nat.reduceMod, Nat.reduceDiv, Int.reduceLE, Int.reduceLT, Int.reduceEq, Int.reduceToNat, Int.reduceAdd, Int.reduceSub, Int.reduceMul, Int.reduceNeg] <;> rfl))
  (hX : X.app o.dst { val := udf } = X' := by (simp only [push_cast, reduceCtorEq, Nat.reduceAdd, Nat.reduceEqDiff] <;> rfl))
  (ha : acc ++ [{ val := udf }] = acc' := by (simp only [List.nil_append, List.cons_append] <;> rfl))
  (hi' : i + 1 = i' := by (simp only [Nat.reduceAdd] <;> rfl))   : gK Γ P ops rid m Ks i (o :: os) X acc K := by
  subst hX ha hi'
  intro hos hle
  have hi : ops[i]? = some o := by simpa using (hos 0).symm
  obtain ⟨rs, Z, h1, h2⟩ := h (fun k => by
    have := hos (k + 1)
    rw [List.getElem?_cons_succ] at this
    rw [this]
    congr 1
    omega) (Array.getElem?_eq_some_iff.1 hi).1
  exact ⟨{ val := udf } :: rs, Z, .cons hi (.inr ⟨want_of hg hb, rfl⟩) (.inl rfl) h1, by simpa using h2⟩

end
end Go.Ot

namespace Go.Ot
section
variable {Γ : Gl} {P : Program} {X : St} {ops ops' : Array Oper} {rid i : Nat} {o : Oper} {os : List Oper} {acc : List Meta} {Q : Exit → St → Prop} {K : St → List Meta → Prop} {draw : Bool}
theorem a_bygod {r : Rec} {X' : St} {ms : Meta} {i' : Nat} {gi : Nat} {want : Bool} (hsp : OpSpec Γ P o X r) (h : wpS Γ P ops rid i' os X' (acc ++ [ms]) (regK ops' draw Q)) (hg : o.guard = some (gi, want) := by rfl)
  (hb : wantIs (gslot ops X gi) want = some true := by (simp only [gslot, Option.bind_some, push_cast, reduceCtorEq, Nat.reduceAdd, Nat.reduceSub, Nat.reduceMul, Nat.reduceEqDiff, Nat.reduceLT, Nat.reduceLeDiff, Nat.reduceMod, Nat.reduceDiv, Int.reduceLE, Int.reduceLT, Int.reduceEq, Int.reduceToNat, Int.reduceAdd, Int.reduceSub, Int.reduceMul, Int.reduceNeg] <;> rfl))
  (hs : stepF P rid i X o = none := by (first | (simp only [push_cast, reduceCtorEq, Nat.reduceAdd, Nat.reduceSub, Nat.reduceMul, Nat.reduceEqDiff, Nat.reduceLT, Nat.reduceLeDiff, Nat.reduceMod, Nat.reduceDiv, Int.reduceLE, Int.reduceLT, Int.reduceEq, Int.reduceToNat, Int.reduceAdd, Int.reduceSub, Int.reduceMul, Int.reduceNeg]) | (simp only [stepF, callF])))
  (ht : Tidy r := by first | exact (fun _ => rfl) | exact (fun h => by cases h))
  (hX : X.app o.dst r = X' := by (simp only [push_cast, reduceCtorEq, Nat.reduceAdd, Nat.reduceEqDiff] <;> rfl))
  (hm : (r).info = ms := by (simp only [Rec.info, push_cast, reduceCtorEq, Nat.reduceAdd, Nat.reduceEqDiff] <;> rfl))
  (hi : i + 1 = i' := by (simp only [Nat.reduceAdd] <;> rfl)) : wpS Γ P ops rid i (o :: os) X acc (regK ops' draw Q) := s_by_if hg hb hs hsp ht hX hm hi h
theorem a_callpgod {gi : Nat} {want : Bool} {g : Operand} {args : Array Operand} {tys : Array TypeId} {f : FuncId} {caps cargs : List D} {r : D} {ps : List Ob} {ps' : List (Option Ob)} {ns : List Ob} {X' : St} {ms : Meta} {i' : Nat} (nms len poi : List Nm) (sh : Bool) (hG : Good Γ P f cargs ps r ps' ns) (h : wpS Γ P ops rid i' os X' (acc ++ [ms]) (regK ops' draw Q)) (hg : o.guard = some (gi, want) := by rfl)
  (hb : wantIs (gslot ops X gi) want = some true := by (simp only [gslot, Option.bind_some, push_cast, reduceCtorEq, Nat.reduceAdd, Nat.reduceSub, Nat.reduceMul, Nat.reduceEqDiff, Nat.reduceLT, Nat.reduceLeDiff, Nat.reduceMod, Nat.reduceDiv, Int.reduceLE, Int.reduceLT, Int.reduceEq, Int.reduceToNat, Int.reduceAdd, Int.reduceSub, Int.reduceMul, Int.reduceNeg] <;> rfl))
  (ho : o.op = .call { callee := .value g, args := args, argTypes := tys } := by rfl)
  (hs : stepF P rid i X o = none := by (simp only [stepF, callF]))
  (hf : ev X g = .fn f caps := by (simp only [push_cast, reduceCtorEq, Nat.reduceAdd, Nat.reduceSub, Nat.reduceMul, Nat.reduceEqDiff, Nat.reduceLT, Nat.reduceLeDiff, Nat.reduceMod, Nat.reduceDiv, Int.reduceLE, Int.reduceLT, Int.reduceEq, Int.reduceToNat, Int.reduceAdd, Int.reduceSub, Int.reduceMul, Int.reduceNeg] <;> rfl))
  (hk : callOk P f = true := by (simp only [push_cast]))
  (hv : VwL (srcOf nms) X.hp (· ∈ len) cargs (args.toList.map (ev X) ++ caps) := by (simp [-List.map_map, -List.map_drop, -List.map_take, VwL_cons, VwL_nil, Vw_bad, Vw_t, Vw_ptr, Vw_msl, Vw_rop, Vw_agg, Vw_tup, Vw_ifc, VwT_refl, VwL_refl_map, Vw_nilmsl, VwT_msl, VwT_agg, VwT_v, VwT_nil, VwTs_cons, VwTs_nil, VwTs_refl, VwTs_app, List.take_of_length_le, srcL, notIn, ObsVw, SrcOk, pOk, Go.Ot.look, resP, resN, ev, evc, mkS, push_cast, srcOf, ObsAt, PoiOk]))
  (hobs : ObsAt (srcOf nms) (· ∈ len) X.hp nms ps := by (simp [-List.map_map, -List.map_drop, -List.map_take, VwL_cons, VwL_nil, Vw_bad, Vw_t, Vw_ptr, Vw_msl, Vw_rop, Vw_agg, Vw_tup, Vw_ifc, VwT_refl, VwL_refl_map, Vw_nilmsl, VwT_msl, VwT_agg, VwT_v, VwT_nil, VwTs_cons, VwTs_nil, VwTs_refl, VwTs_app, List.take_of_length_le, srcL, notIn, ObsVw, SrcOk, pOk, Go.Ot.look, resP, resN, ev, evc, mkS, push_cast, srcOf, ObsAt, PoiOk]))
  (hnd : nms.Nodup := by (simp [-List.map_map, -List.map_drop, -List.map_take, VwL_cons, VwL_nil, Vw_bad, Vw_t, Vw_ptr, Vw_msl, Vw_rop, Vw_agg, Vw_tup, Vw_ifc, VwT_refl, VwL_refl_map, Vw_nilmsl, VwT_msl, VwT_agg, VwT_v, VwT_nil, VwTs_cons, VwTs_nil, VwTs_refl, VwTs_app, List.take_of_length_le, srcL, notIn, ObsVw, SrcOk, pOk, Go.Ot.look, resP, resN, ev, evc, mkS, push_cast, srcOf, ObsAt, PoiOk]))
  (hdis : ∀ m ∈ len, m ∉ nms := by (simp))
  (hlex : ∀ m ∈ len, X.hp m ≠ none := by (simp [Go.Ot.look]))
  (hpoi : PoiOk poi nms ps ps' := by (simp [-List.map_map, -List.map_drop, -List.map_take, VwL_cons, VwL_nil, Vw_bad, Vw_t, Vw_ptr, Vw_msl, Vw_rop, Vw_agg, Vw_tup, Vw_ifc, VwT_refl, VwL_refl_map, Vw_nilmsl, VwT_msl, VwT_agg, VwT_v, VwT_nil, VwTs_cons, VwTs_nil, VwTs_refl, VwTs_app, List.take_of_length_le, srcL, notIn, ObsVw, SrcOk, pOk, Go.Ot.look, resP, resN, ev, evc, mkS, push_cast, srcOf, ObsAt, PoiOk]))
  (hnew : ∀ k, k < ns.length → X.hp (.r rid i k) = none := by (simp [Go.Ot.look]))
  (hsh : sh = false → r.flat = true ∧ (∀ ob ∈ ns, D.flatL ob.cells = true) ∧ ∀ ob, some ob ∈ ps' → D.flatL ob.cells = true := by (simp [-List.map_map, -List.map_drop, -List.map_take, D.flat, D.flatL, T.flat, T.flatL, flatL_map_t, push_cast]))
  (hlp : sh = true → ∀ m ∈ len, ∀ ob, X.hp m = some ob → ∀ p ∈ poi, D.hasL p ob.cells = false := by (simp [Go.Ot.look, D.hasL, D.has, push_cast]))
  (ht : Tidy (callRec X nms r ps' ns rid i sh len poi) := by first | exact (fun _ => rfl) | exact (fun h => by cases h))
  (hX : X.app o.dst (callRec X nms r ps' ns rid i sh len poi) = X' := by (simp only [push_cast, reduceCtorEq, Nat.reduceAdd, Nat.reduceEqDiff] <;> rfl))
  (hm : (callRec X nms r ps' ns rid i sh len poi).info = ms := by (simp only [Rec.info, push_cast, reduceCtorEq, Nat.reduceAdd, Nat.reduceEqDiff] <;> rfl))
  (hi : i + 1 = i' := by (simp only [Nat.reduceAdd] <;> rfl)) : wpS Γ P ops rid i (o :: os) X acc (regK ops' draw Q) := s_by_if hg hb hs (spec_callp ho hf hk nms len poi hG hv hobs hnd hdis hlex hpoi rid i hnew sh hsh hlp) ht hX hm hi h
end
end Go.Ot

namespace Go.Ot
def meetF {α : Type} (Γ : Gl) (F : α → St) (hI : α → Prop) (Q : Exit → St → Prop) (e : Exit) (Z : St) : Prop := match e with | .normal => ∃ a, Le Γ Z (F a) ∧ hI a | e => Q e Z
theorem q_meetF {α : Type} {Γ : Gl} {F : α → St} {hI : α → Prop} {Q : Exit → St → Prop} {X : St} (a : α) (h1 : Le Γ X (F a)) (h2 : hI a) : meetF Γ F hI Q .normal X := ⟨a, h1, h2⟩
theorem q_meetF_exit {α : Type} {Γ : Gl} {F : α → St} {hI : α → Prop} {Q : Exit → St → Prop} {X : St} {id : Nat} (h : Q (.exit id) X) : meetF Γ F hI Q (.exit id) X := h
theorem q_meetF_ret {α : Type} {Γ : Gl} {F : α → St} {hI : α → Prop} {Q : Exit → St → Prop} {X : St} (h : Q .ret X) : meetF Γ F hI Q .ret X := h
theorem k_meetF {Γ : Gl} {P : Program} {Q : Exit → St → Prop} {a b : Code} {α : Type} {sl : List D} {L : List (Nm × Ob)} (F : List D → List (Nm × Ob) → α → St) (hI : α → Prop)
    (h : wpK Γ P a (meetF Γ (F sl L) hI Q) ⟨sl, look L⟩) (h' : ∀ x, hI x → wpK Γ P b Q (F sl L x)) : wpK Γ P (.seq a b) Q ⟨sl, look L⟩ :=
  seqK_mono a (fun e Z h => by
    cases e with
    | normal =>
      obtain ⟨x, h1, h2⟩ := h
      exact ⟨F sl L x, h1, h' x h2⟩
    | exit id => exact h
    | goto l => exact h
    | ret => exact h
    | panic ch => exact h
    | outgrown => exact h) _ h
end Go.Ot
