/- Interface values that are plain data: assertions, methods, functions of the library without a body. -/
import Derived.Test.YtbpponebopnfaaaDoorOtUse
import Derived.KernelRfl
import Derived.Laws.Externs
import Derived.Stop.Asserts
set_option linter.unusedVariables false
set_option linter.unusedSimpArgs false
namespace Go.Ot
mutual
/-- The value that a tree is, if it leads to no memory. -/
def T.plain : T → Option Value
  | .v x => some x
  | .sl _ _ => none
  | .ifc t d => (T.plain d).map (.iface t)
  | .agg cs => (T.plains cs).map fun vs => .agg vs.toArray
def T.plains : List T → Option (List Value)
  | [] => some []
  | c :: cs => match T.plain c, T.plains cs with
    | some x, some xs => some (x :: xs)
    | _, _ => none
end
mutual
def D.plain : D → Option Value
  | .t x => x.plain
  | .ifc ty d => (D.plain d).map (.iface ty)
  | .agg cs => (D.plains cs).map fun vs => .agg vs.toArray
  | .fn f [] => some (.func (.func f) #[] #[])
  | _ => none
def D.plains : List D → Option (List Value)
  | [] => some []
  | c :: cs => match D.plain c, D.plains cs with
    | some x, some xs => some (x :: xs)
    | _, _ => none
end
mutual
theorem RepT.plain {w : World} {M : Nat → Prop} : ∀ (x : T) (u v : Value), RepT w M x u → x.plain = some v → u = v
  | .v x, u, v, h, hv => by simp only [T.plain, Option.some.injEq] at hv; rw [← hv]; exact h
  | .sl _ _, u, v, h, hv => by simp [T.plain] at hv
  | .ifc t d, u, v, h, hv => by
    simp only [T.plain, Option.map_eq_some_iff] at hv
    obtain ⟨y, hy, rfl⟩ := hv
    obtain ⟨z, rfl, hz⟩ := h
    rw [RepT.plain d z y hz hy]
  | .agg cs, u, v, h, hv => by
    simp only [T.plain, Option.map_eq_some_iff] at hv
    obtain ⟨ys, hy, rfl⟩ := hv
    obtain ⟨vs, rfl, hz⟩ := h
    rw [← RepTs.plains cs _ ys hz hy]
theorem RepTs.plains {w : World} {M : Nat → Prop} : ∀ (cs : List T) (us vs : List Value), RepTs w M cs us → T.plains cs = some vs → us = vs
  | [], us, vs, h, hv => by simp only [T.plains, Option.some.injEq] at hv; rw [← hv]; exact h
  | c :: cs, us, vs, h, hv => by
    simp only [T.plains] at hv
    split at hv
    · rename_i x xs h1 h2
      cases hv
      obtain ⟨u, us', rfl, _, h3, h4⟩ := h
      rw [RepT.plain c u x h3 h1, RepTs.plains cs us' xs h4 h2]
    · cases hv
end
mutual
theorem Rep.plain {w : World} {M : Nat → Prop} {η : Et} : ∀ (d : D) (u v : Value), Rep w M η d u → d.plain = some v → u = v
  | .t x, u, v, h, hv => RepT.plain x u v h hv
  | .ifc t d, u, v, h, hv => by
    simp only [D.plain, Option.map_eq_some_iff] at hv
    obtain ⟨y, hy, rfl⟩ := hv
    obtain ⟨z, rfl, hz⟩ := h
    rw [Rep.plain d z y hz hy]
  | .agg cs, u, v, h, hv => by
    simp only [D.plain, Option.map_eq_some_iff] at hv
    obtain ⟨ys, hy, rfl⟩ := hv
    obtain ⟨vs, rfl, hz⟩ := h
    rw [← Reps.plains cs _ ys hz hy]
  | .bad, u, v, h, hv => by simp [D.plain] at hv
  | .tup _, u, v, h, hv => by simp [D.plain] at hv
  | .ptr _ _, u, v, h, hv => by simp [D.plain] at hv
  | .rop _, u, v, h, hv => by simp [D.plain] at hv
  | .msl _ _ _ _, u, v, h, hv => by simp [D.plain] at hv
  | .fn f [], u, v, h, hv => by
    simp only [D.plain, Option.some.injEq] at hv
    obtain ⟨vs, rfl, hz⟩ := h
    obtain ⟨l⟩ := vs
    cases l with
    | nil => exact hv
    | cons _ _ => first | cases hz | (simp [RepsA] at hz)
  | .fn _ (_ :: _), u, v, h, hv => by simp [D.plain] at hv
theorem Reps.plains {w : World} {M : Nat → Prop} {η : Et} : ∀ (cs : List D) (us vs : List Value), Reps w M η cs us → D.plains cs = some vs → us = vs
  | [], us, vs, h, hv => by simp only [D.plains, Option.some.injEq] at hv; rw [← hv]; exact h
  | c :: cs, us, vs, h, hv => by
    simp only [D.plains] at hv
    split at hv
    · rename_i x xs h1 h2
      cases hv
      obtain ⟨u, us', rfl, _, h3, h4⟩ := h
      rw [Rep.plain c u x h3 h1, Reps.plains cs us' xs h4 h2]
    · cases hv
end
section
variable {Γ : Gl} {P : Program} {o : Oper} {X : St}
/-- An operation on plain values that looks at no memory. -/
theorem spec_plain (hs : ∀ cs b, o.op ≠ .select cs b) (hρ : ∀ x ∈ o.op.operands.toList, ((ev X x).plain).isSome = true) (v : Value)
    (h : ∀ w, (execOp (fun x => ((ev X x).plain).getD undef) o).run P w = .ok (.value v) w) : OpSpec Γ P o X { val := .t (.v v) } := by
  intro E Y a w η hA hS K Q hK
  have he : execOp a.eval o = execOp (fun x => ((ev X x).plain).getD undef) o := execOp_congr o hs (fun x hx => by
    have hx' : x ∈ o.op.operands.toList := by simpa using hx
    have h1 := hS.ev x
    rw [hA.2.1 x hx'] at h1
    obtain ⟨y, hy⟩ := Option.isSome_iff_exists.1 (hρ x hx')
    rw [hy]
    exact Rep.plain _ _ _ h1 hy)
  refine wp_val (v := v) (w' := w) (by rw [he]; exact h w) (hK _ _ η ?_)
  rw [app_val]
  exact hS.put (by exact rfl) o.dst
/-- A method of a plain value behind an interface, by its function's contract. -/
theorem spec_invoke {rx : Operand} {name : String} {args : Array Operand} {tys : Array TypeId} {ty : TypeId} {v v' : Value} {f : FuncId} {r : Rec} (h : o.op = .call { callee := .invoke rx name, args := args, argTypes := tys })
    (hx : (ev X rx).plain = some (.iface ty v)) (hm : ∀ w, (method (P.types.size + Made.depth) ty v name).run P w = .ok (f, v') w) (hk : callOk P f = true)
    (hspec : OpSpec Γ P { o with op := .call { callee := .value (.func f), args := #[.const v'] ++ args, argTypes := tys } } X r) : OpSpec Γ P o X r := by
  intro E Y a w η hA hS K Q hK
  have hrx : a.eval rx = .iface ty v := by
    have h1 := hS.ev rx
    rw [hA.2.1 rx (by rw [h]; simp [Op.operands, Call.operands])] at h1
    exact Rep.plain _ _ _ h1 hx
  have hA' : Agree X Y { o with op := .call { callee := .value (.func f), args := #[.const v'] ++ args, argTypes := tys } } r := by
    refine ⟨hA.1, fun x hx' => ?_, hA.2.2⟩
    simp [Op.operands, Call.operands] at hx'
    rcases hx' with rfl | rfl | hx'
    · rfl
    · rfl
    · exact hA.2.1 x (by rw [h]; simp [Op.operands, Call.operands]; exact .inr hx')
  have h2 := hspec E Y a w η hA' hS K Q hK
  have e1 : (execOp a.eval o).run P w = .ok (.enter f (#[v'] ++ args.map a.eval)) w := by
    have hp : ((do pure (← program).types.size) : Sem Nat).run P w = .ok P.types.size w := rfl
    have h0 : (#[Value.iface ty v] ++ args.map a.eval)[0]? = some (.iface ty v) := by rw [Array.getElem?_append_left (by simp)]; rfl
    have h1 : (#[Value.iface ty v] ++ args.map a.eval).extract 1 (#[Value.iface ty v] ++ args.map a.eval).size = args.map a.eval := by
      apply Array.ext'
      simp
      exact List.take_of_length_le (by simp)
    simp only [execOp, h, resolve, Sem.run_bind, Sem.run_pure, Result.andThen_ok, invoke, hrx, h0, h1, callMethod]
    have hm' := hm w
    rw [Sem.run_bind] at *
    simp [hm', run_call hk]
  have e2 : (execOp a.eval { o with op := .call { callee := .value (.func f), args := #[.const v'] ++ args, argTypes := tys } }).run P w = .ok (.enter f (#[v'] ++ args.map a.eval)) w := by
    simp only [execOp, resolve, Act.eval, Deferred.ofValue, Sem.run_bind, Sem.run_pure, Result.andThen_ok, invoke]
    simp [Act.eval, run_call hk]
  unfold Oper.wp at h2 ⊢
  rw [e2] at h2
  rw [e1]
  exact h2
end
section
variable {Γ : Gl} {P : Program} {X : St} {ops ops' : Array Oper} {rid i : Nat} {o : Oper} {os : List Oper} {acc : List Meta} {Q : Exit → St → Prop} {K : St → List Meta → Prop} {draw : Bool}
theorem a_plain (v : Value) {X' : St} {i' : Nat} (h : wpS Γ P ops rid i' os X' [] (regK ops' false Q)) (hg : o.guard = none := by rfl)
  (hs : stepF P rid i X o = none := by (simp only [push_cast, reduceCtorEq, Nat.reduceAdd, Nat.reduceSub, Nat.reduceMul, Nat.reduceEqDiff, Nat.reduceLT, Nat.reduceLeDiff, Nat.reduceMod, Nat.reduceDiv, Int.reduceLE, Int.reduceLT, Int.reduceEq, Int.reduceToNat, Int.reduceAdd, Int.reduceSub, Int.reduceMul, Int.reduceNeg]))
  (hsel : ∀ cs b, o.op ≠ .select cs b := by (intro cs b h; cases h))
  (hr : o.op.operands.toList.all (fun x => ((ev X x).plain).isSome) = true := by kernel_rfl)
  (hv : ∀ w, (execOp (fun x => ((ev X x).plain).getD undef) o).run P w = .ok (.value v) w := by (intro w; kernel_rfl))
  (hX : X.app o.dst { val := .t (.v v) } = X' := by (simp only [push_cast, reduceCtorEq, Nat.reduceAdd, Nat.reduceEqDiff] <;> rfl))
  (hi : i + 1 = i' := by (simp only [Nat.reduceAdd] <;> rfl)) : wpS Γ P ops rid i (o :: os) X [] (regK ops' false Q) := s_by0 hg hs (spec_plain hsel (fun x hx => List.all_eq_true.1 hr x hx) v hv) (fun _ => rfl) hX hi h
theorem a_plaingo {gi : Nat} {want : Bool} (v : Value) {X' : St} {i' : Nat} (h : wpS Γ P ops rid i' os X' [] (regK ops' false Q)) (hg : o.guard = some (gi, want) := by rfl)
  (hb : wantIs (gslot ops X gi) want = some true := by (simp only [gslot, Option.bind_some, push_cast, reduceCtorEq, Nat.reduceAdd, Nat.reduceSub, Nat.reduceMul, Nat.reduceEqDiff, Nat.reduceLT, Nat.reduceLeDiff, Nat.reduceMod, Nat.reduceDiv, Int.reduceLE, Int.reduceLT, Int.reduceEq, Int.reduceToNat, Int.reduceAdd, Int.reduceSub, Int.reduceMul, Int.reduceNeg] <;> rfl))
  (hs : stepF P rid i X o = none := by (simp only [push_cast, reduceCtorEq, Nat.reduceAdd, Nat.reduceSub, Nat.reduceMul, Nat.reduceEqDiff, Nat.reduceLT, Nat.reduceLeDiff, Nat.reduceMod, Nat.reduceDiv, Int.reduceLE, Int.reduceLT, Int.reduceEq, Int.reduceToNat, Int.reduceAdd, Int.reduceSub, Int.reduceMul, Int.reduceNeg]))
  (hsel : ∀ cs b, o.op ≠ .select cs b := by (intro cs b h; cases h))
  (hr : o.op.operands.toList.all (fun x => ((ev X x).plain).isSome) = true := by kernel_rfl)
  (hv : ∀ w, (execOp (fun x => ((ev X x).plain).getD undef) o).run P w = .ok (.value v) w := by (intro w; kernel_rfl))
  (hX : X.app o.dst { val := .t (.v v) } = X' := by (simp only [push_cast, reduceCtorEq, Nat.reduceAdd, Nat.reduceEqDiff] <;> rfl))
  (hi : i + 1 = i' := by (simp only [Nat.reduceAdd] <;> rfl)) : wpS Γ P ops rid i (o :: os) X [] (regK ops' false Q) := s_by_if0 hg hb hs (spec_plain hsel (fun x hx => List.all_eq_true.1 hr x hx) v hv) (fun _ => rfl) hX hi h
theorem a_invoke {rx : Operand} {name : String} {args : Array Operand} {tys : Array TypeId} {ty : TypeId} {v v' : Value} {f : FuncId} {cargs : List D} {r : D} {ns : List Ob} {X' : St} {i' : Nat} (len : List Nm) (sh : Bool) (hG : Good Γ P f cargs [] r [] ns) (h : wpS Γ P ops rid i' os X' [] (regK ops' false Q)) (hx : (ev X rx).plain = some (.iface ty v)) (hm1 : ∀ w, (method (P.types.size + Made.depth) ty v name).run P w = .ok (f, v') w) (hg : o.guard = none := by rfl)
  (ho : o.op = .call { callee := .invoke rx name, args := args, argTypes := tys } := by rfl)
  (hs : stepF P rid i X o = none := by (simp only [stepF, callF]))
  (hk : callOk P f = true := by (simp only [push_cast]))
  (hv : VwL (fun _ => none) X.hp (· ∈ len) cargs ((#[Operand.const v'] ++ args).toList.map (ev X) ++ []) := by (first | ((try simp (disch := first | omega | (simp only [List.length_drop, List.length_take, List.length_map, List.length_append, List.length_cons, List.length_nil, List.length_replicate, List.length_set] <;> omega) | (simp only [push_cast] <;> omega) | fail) only [push_cast, reduceCtorEq, Nat.reduceAdd, Nat.reduceSub, Nat.reduceMul, Nat.reduceEqDiff, Nat.reduceLT, Nat.reduceLeDiff, Nat.reduceMod, Nat.reduceDiv, Int.reduceLE, Int.reduceLT, Int.reduceEq, Int.reduceToNat, Int.reduceAdd, Int.reduceSub, Int.reduceMul, Int.reduceNeg]); (repeat' (first | exact Vw_self | exact VwL_n | refine VwL_c ?_ ?_ | refine Vw_a ?_)); done) | (simp [-List.map_map, -List.map_drop, -List.map_take, ev, evc, mkS, push_cast, List.take_of_length_le] <;> (try simp only [List.length_drop, List.length_take, List.length_map, List.length_append, List.length_cons, List.length_nil, List.length_replicate, List.length_set]) <;> (try omega))))
  (hlex : ∀ m ∈ len, X.hp m ≠ none := by (simp [Go.Ot.look]))
  (hnew : ∀ k, k < ns.length → X.hp (.r rid i k) = none := by (simp [Go.Ot.look]))
  (hsh : sh = false → r.flat = true ∧ (∀ ob ∈ ns, D.flatL ob.cells = true) := by (simp [-List.map_map, -List.map_drop, -List.map_take, D.flat, D.flatL, T.flat, T.flatL, flatL_map_t, push_cast]))
  (hX : X.app o.dst (callRec X [] r [] ns rid i sh len []) = X' := by (simp only [push_cast, reduceCtorEq, Nat.reduceAdd, Nat.reduceEqDiff] <;> rfl))
  (hi : i + 1 = i' := by (simp only [Nat.reduceAdd] <;> rfl)) : wpS Γ P ops rid i (o :: os) X [] (regK ops' false Q) :=
  s_by0 hg hs (spec_invoke ho hx hm1 hk (spec_call0 (.func f) (#[Operand.const v'] ++ args) tys rfl rfl hk len hG hv hlex rid i hnew sh hsh)) (fun _ => rfl) hX hi h
theorem a_plaind (v : Value) {X' : St} {ms : Meta} {i' : Nat} (h : wpS Γ P ops rid i' os X' (acc ++ [ms]) (regK ops' draw Q)) (hg : o.guard = none := by rfl)
  (hs : stepF P rid i X o = none := by (simp only [push_cast, reduceCtorEq, Nat.reduceAdd, Nat.reduceSub, Nat.reduceMul, Nat.reduceEqDiff, Nat.reduceLT, Nat.reduceLeDiff, Nat.reduceMod, Nat.reduceDiv, Int.reduceLE, Int.reduceLT, Int.reduceEq, Int.reduceToNat, Int.reduceAdd, Int.reduceSub, Int.reduceMul, Int.reduceNeg]))
  (hsel : ∀ cs b, o.op ≠ .select cs b := by (intro cs b h; cases h))
  (hr : o.op.operands.toList.all (fun x => ((ev X x).plain).isSome) = true := by kernel_rfl)
  (hv : ∀ w, (execOp (fun x => ((ev X x).plain).getD undef) o).run P w = .ok (.value v) w := by (intro w; kernel_rfl))
  (hX : X.app o.dst { val := .t (.v v) } = X' := by (simp only [push_cast, reduceCtorEq, Nat.reduceAdd, Nat.reduceEqDiff] <;> rfl))
  (hm : (Rec.info { val := .t (.v v) }) = ms := by (simp only [Rec.info, push_cast, reduceCtorEq, Nat.reduceAdd, Nat.reduceEqDiff] <;> rfl))
  (hi : i + 1 = i' := by (simp only [Nat.reduceAdd] <;> rfl)) : wpS Γ P ops rid i (o :: os) X acc (regK ops' draw Q) := s_by hg hs (spec_plain hsel (fun x hx => List.all_eq_true.1 hr x hx) v hv) (fun _ => rfl) hX hm hi h
theorem a_plaingod {gi : Nat} {want : Bool} (v : Value) {X' : St} {ms : Meta} {i' : Nat} (h : wpS Γ P ops rid i' os X' (acc ++ [ms]) (regK ops' draw Q)) (hg : o.guard = some (gi, want) := by rfl)
  (hb : wantIs (gslot ops X gi) want = some true := by (simp only [gslot, Option.bind_some, push_cast, reduceCtorEq, Nat.reduceAdd, Nat.reduceSub, Nat.reduceMul, Nat.reduceEqDiff, Nat.reduceLT, Nat.reduceLeDiff, Nat.reduceMod, Nat.reduceDiv, Int.reduceLE, Int.reduceLT, Int.reduceEq, Int.reduceToNat, Int.reduceAdd, Int.reduceSub, Int.reduceMul, Int.reduceNeg] <;> rfl))
  (hs : stepF P rid i X o = none := by (simp only [push_cast, reduceCtorEq, Nat.reduceAdd, Nat.reduceSub, Nat.reduceMul, Nat.reduceEqDiff, Nat.reduceLT, Nat.reduceLeDiff, Nat.reduceMod, Nat.reduceDiv, Int.reduceLE, Int.reduceLT, Int.reduceEq, Int.reduceToNat, Int.reduceAdd, Int.reduceSub, Int.reduceMul, Int.reduceNeg]))
  (hsel : ∀ cs b, o.op ≠ .select cs b := by (intro cs b h; cases h))
  (hr : o.op.operands.toList.all (fun x => ((ev X x).plain).isSome) = true := by kernel_rfl)
  (hv : ∀ w, (execOp (fun x => ((ev X x).plain).getD undef) o).run P w = .ok (.value v) w := by (intro w; kernel_rfl))
  (hX : X.app o.dst { val := .t (.v v) } = X' := by (simp only [push_cast, reduceCtorEq, Nat.reduceAdd, Nat.reduceEqDiff] <;> rfl))
  (hm : (Rec.info { val := .t (.v v) }) = ms := by (simp only [Rec.info, push_cast, reduceCtorEq, Nat.reduceAdd, Nat.reduceEqDiff] <;> rfl))
  (hi : i + 1 = i' := by (simp only [Nat.reduceAdd] <;> rfl)) : wpS Γ P ops rid i (o :: os) X acc (regK ops' draw Q) := s_by_if hg hb hs (spec_plain hsel (fun x hx => List.all_eq_true.1 hr x hx) v hv) (fun _ => rfl) hX hm hi h
theorem a_invoked {rx : Operand} {name : String} {args : Array Operand} {tys : Array TypeId} {ty : TypeId} {v v' : Value} {f : FuncId} {cargs : List D} {r : D} {ns : List Ob} {X' : St} {ms : Meta} {i' : Nat} (len : List Nm) (sh : Bool) (hG : Good Γ P f cargs [] r [] ns) (h : wpS Γ P ops rid i' os X' (acc ++ [ms]) (regK ops' draw Q)) (hx : (ev X rx).plain = some (.iface ty v)) (hm1 : ∀ w, (method (P.types.size + Made.depth) ty v name).run P w = .ok (f, v') w) (hg : o.guard = none := by rfl)
  (ho : o.op = .call { callee := .invoke rx name, args := args, argTypes := tys } := by rfl)
  (hs : stepF P rid i X o = none := by (simp only [stepF, callF]))
  (hk : callOk P f = true := by (simp only [push_cast]))
  (hv : VwL (fun _ => none) X.hp (· ∈ len) cargs ((#[Operand.const v'] ++ args).toList.map (ev X) ++ []) := by (first | ((try simp (disch := first | omega | (simp only [List.length_drop, List.length_take, List.length_map, List.length_append, List.length_cons, List.length_nil, List.length_replicate, List.length_set] <;> omega) | (simp only [push_cast] <;> omega) | fail) only [push_cast, reduceCtorEq, Nat.reduceAdd, Nat.reduceSub, Nat.reduceMul, Nat.reduceEqDiff, Nat.reduceLT, Nat.reduceLeDiff, Nat.reduceMod, Nat.reduceDiv, Int.reduceLE, Int.reduceLT, Int.reduceEq, Int.reduceToNat, Int.reduceAdd, Int.reduceSub, Int.reduceMul, Int.reduceNeg]); (repeat' (first | exact Vw_self | exact VwL_n | refine VwL_c ?_ ?_ | refine Vw_a ?_)); done) | (simp [-List.map_map, -List.map_drop, -List.map_take, ev, evc, mkS, push_cast, List.take_of_length_le] <;> (try simp only [List.length_drop, List.length_take, List.length_map, List.length_append, List.length_cons, List.length_nil, List.length_replicate, List.length_set]) <;> (try omega))))
  (hlex : ∀ m ∈ len, X.hp m ≠ none := by (simp [Go.Ot.look]))
  (hnew : ∀ k, k < ns.length → X.hp (.r rid i k) = none := by (simp [Go.Ot.look]))
  (hsh : sh = false → r.flat = true ∧ (∀ ob ∈ ns, D.flatL ob.cells = true) := by (simp [-List.map_map, -List.map_drop, -List.map_take, D.flat, D.flatL, T.flat, T.flatL, flatL_map_t, push_cast]))
  (hX : X.app o.dst (callRec X [] r [] ns rid i sh len []) = X' := by (simp only [push_cast, reduceCtorEq, Nat.reduceAdd, Nat.reduceEqDiff] <;> rfl))
  (hm : (Rec.info (callRec X [] r [] ns rid i sh len [])) = ms := by (simp only [Rec.info, push_cast, reduceCtorEq, Nat.reduceAdd, Nat.reduceEqDiff] <;> rfl))
  (hi : i + 1 = i' := by (simp only [Nat.reduceAdd] <;> rfl)) : wpS Γ P ops rid i (o :: os) X acc (regK ops' draw Q) :=
  s_by hg hs (spec_invoke ho hx hm1 hk (spec_call0 (.func f) (#[Operand.const v'] ++ args) tys rfl rfl hk len hG hv hlex rid i hnew sh hsh)) (fun _ => rfl) hX hm hi h
end
section
variable {Γ : Gl} {P : Program} {X : St} {ops ops' : Array Oper} {rid i : Nat} {o : Oper} {os : List Oper} {acc : List Meta} {Q : Exit → St → Prop} {K : St → List Meta → Prop} {draw : Bool}
theorem spec_assert {x : Operand} {xT t : TypeId} {c : Bool} {u res : Value} (h : o.op = .typeAssert x xT t c) (hx : (ev X x).plain = some u) (hr : ∀ w, (Instr.typeAssert u xT t c).run P w = .ok res w) : OpSpec Γ P o X { val := .t (.v res) } := by
  refine spec_plain (by intro cs b e; rw [h] at e; cases e) (fun y hy => ?_) res (fun w => ?_)
  · rw [h] at hy
    simp [Op.operands] at hy
    subst hy
    rw [hx]; rfl
  · simp only [execOp, h, hx, Option.getD_some, Sem.run_bind, hr w, Result.andThen_ok, Sem.run_pure]
theorem spec_eqv {op : BinOp} {t ty : TypeId} {x y : Operand} {u v res : Value} (h : o.op = .binOp op t x y ty) (hx : (ev X x).plain = some u) (hy : (ev X y).plain = some v) (hn : ¬ (u = .nilIface ∧ v = .nilIface)) (h2 : ∀ c d, u = .agg c → v = .agg d → False) (hr : ∀ w, (binOp op t u v).run P w = .ok res w) : OpSpec Γ P o X { val := .t (.v res) } := by
  refine spec_plain (by intro cs b e; rw [h] at e; cases e) (fun z hz => ?_) res (fun w => ?_)
  · rw [h] at hz
    simp [Op.operands] at hz
    rcases hz with rfl | rfl
    · rw [hx]; rfl
    · rw [hy]; rfl
  · simp only [execOp, h, hx, hy, Option.getD_some, Sem.run_bind, run_fst hn h2, hr w, Result.andThen_ok, Sem.run_pure]
theorem a_assert {x : Operand} {xT t : TypeId} {c : Bool} (u res : Value) {X' : St} {i' : Nat} (h : wpS Γ P ops rid i' os X' [] (regK ops' false Q)) (hr : ∀ w, (Instr.typeAssert u xT t c).run P w = .ok res w) (hg : o.guard = none := by rfl)
  (ho : o.op = .typeAssert x xT t c := by rfl)
  (hs : stepF P rid i X o = none := by (simp only [push_cast, reduceCtorEq, Nat.reduceAdd, Nat.reduceSub, Nat.reduceMul, Nat.reduceEqDiff, Nat.reduceLT, Nat.reduceLeDiff, Nat.reduceMod, Nat.reduceDiv, Int.reduceLE, Int.reduceLT, Int.reduceEq, Int.reduceToNat, Int.reduceAdd, Int.reduceSub, Int.reduceMul, Int.reduceNeg]))
  (hx : (ev X x).plain = some u := by rfl)
  (hX : X.app o.dst { val := .t (.v res) } = X' := by (simp only [push_cast, reduceCtorEq, Nat.reduceAdd, Nat.reduceEqDiff] <;> rfl))
  (hi : i + 1 = i' := by (simp only [Nat.reduceAdd] <;> rfl)) : wpS Γ P ops rid i (o :: os) X [] (regK ops' false Q) := s_by0 hg hs (spec_assert ho hx hr) (fun _ => rfl) hX hi h
theorem a_eqv {op : BinOp} {t ty : TypeId} {x y : Operand} {u v : Value} (res : Value) {X' : St} {i' : Nat} (h : wpS Γ P ops rid i' os X' [] (regK ops' false Q)) (hr : ∀ w, (binOp op t u v).run P w = .ok res w) (hg : o.guard = none := by rfl)
  (ho : o.op = .binOp op t x y ty := by rfl)
  (hs : stepF P rid i X o = none := by (simp only [push_cast, reduceCtorEq, Nat.reduceAdd, Nat.reduceSub, Nat.reduceMul, Nat.reduceEqDiff, Nat.reduceLT, Nat.reduceLeDiff, Nat.reduceMod, Nat.reduceDiv, Int.reduceLE, Int.reduceLT, Int.reduceEq, Int.reduceToNat, Int.reduceAdd, Int.reduceSub, Int.reduceMul, Int.reduceNeg]))
  (hx : (ev X x).plain = some u := by rfl)
  (hy : (ev X y).plain = some v := by rfl)
  (hn : ¬ (u = .nilIface ∧ v = .nilIface) := by (rintro ⟨h, _⟩; cases h))
  (h2 : ∀ c d, u = .agg c → v = .agg d → False := by (intro c d h; cases h))
  (hX : X.app o.dst { val := .t (.v res) } = X' := by (simp only [push_cast, reduceCtorEq, Nat.reduceAdd, Nat.reduceEqDiff] <;> rfl))
  (hi : i + 1 = i' := by (simp only [Nat.reduceAdd] <;> rfl)) : wpS Γ P ops rid i (o :: os) X [] (regK ops' false Q) := s_by0 hg hs (spec_eqv ho hx hy hn h2 hr) (fun _ => rfl) hX hi h
theorem a_assertgo {gi : Nat} {want : Bool} {x : Operand} {xT t : TypeId} {c : Bool} (u res : Value) {X' : St} {i' : Nat} (h : wpS Γ P ops rid i' os X' [] (regK ops' false Q)) (hr : ∀ w, (Instr.typeAssert u xT t c).run P w = .ok res w) (hg : o.guard = some (gi, want) := by rfl)
  (hb : wantIs (gslot ops X gi) want = some true := by (simp only [gslot, Option.bind_some, push_cast, reduceCtorEq, Nat.reduceAdd, Nat.reduceSub, Nat.reduceMul, Nat.reduceEqDiff, Nat.reduceLT, Nat.reduceLeDiff, Nat.reduceMod, Nat.reduceDiv, Int.reduceLE, Int.reduceLT, Int.reduceEq, Int.reduceToNat, Int.reduceAdd, Int.reduceSub, Int.reduceMul, Int.reduceNeg] <;> rfl))
  (ho : o.op = .typeAssert x xT t c := by rfl)
  (hs : stepF P rid i X o = none := by (simp only [push_cast, reduceCtorEq, Nat.reduceAdd, Nat.reduceSub, Nat.reduceMul, Nat.reduceEqDiff, Nat.reduceLT, Nat.reduceLeDiff, Nat.reduceMod, Nat.reduceDiv, Int.reduceLE, Int.reduceLT, Int.reduceEq, Int.reduceToNat, Int.reduceAdd, Int.reduceSub, Int.reduceMul, Int.reduceNeg]))
  (hx : (ev X x).plain = some u := by rfl)
  (hX : X.app o.dst { val := .t (.v res) } = X' := by (simp only [push_cast, reduceCtorEq, Nat.reduceAdd, Nat.reduceEqDiff] <;> rfl))
  (hi : i + 1 = i' := by (simp only [Nat.reduceAdd] <;> rfl)) : wpS Γ P ops rid i (o :: os) X [] (regK ops' false Q) := s_by_if0 hg hb hs (spec_assert ho hx hr) (fun _ => rfl) hX hi h
theorem a_eqvgo {gi : Nat} {want : Bool} {op : BinOp} {t ty : TypeId} {x y : Operand} {u v : Value} (res : Value) {X' : St} {i' : Nat} (h : wpS Γ P ops rid i' os X' [] (regK ops' false Q)) (hr : ∀ w, (binOp op t u v).run P w = .ok res w) (hg : o.guard = some (gi, want) := by rfl)
  (hb : wantIs (gslot ops X gi) want = some true := by (simp only [gslot, Option.bind_some, push_cast, reduceCtorEq, Nat.reduceAdd, Nat.reduceSub, Nat.reduceMul, Nat.reduceEqDiff, Nat.reduceLT, Nat.reduceLeDiff, Nat.reduceMod, Nat.reduceDiv, Int.reduceLE, Int.reduceLT, Int.reduceEq, Int.reduceToNat, Int.reduceAdd, Int.reduceSub, Int.reduceMul, Int.reduceNeg] <;> rfl))
  (ho : o.op = .binOp op t x y ty := by rfl)
  (hs : stepF P rid i X o = none := by (simp only [push_cast, reduceCtorEq, Nat.reduceAdd, Nat.reduceSub, Nat.reduceMul, Nat.reduceEqDiff, Nat.reduceLT, Nat.reduceLeDiff, Nat.reduceMod, Nat.reduceDiv, Int.reduceLE, Int.reduceLT, Int.reduceEq, Int.reduceToNat, Int.reduceAdd, Int.reduceSub, Int.reduceMul, Int.reduceNeg]))
  (hx : (ev X x).plain = some u := by rfl)
  (hy : (ev X y).plain = some v := by rfl)
  (hn : ¬ (u = .nilIface ∧ v = .nilIface) := by (rintro ⟨h, _⟩; cases h))
  (h2 : ∀ c d, u = .agg c → v = .agg d → False := by (intro c d h; cases h))
  (hX : X.app o.dst { val := .t (.v res) } = X' := by (simp only [push_cast, reduceCtorEq, Nat.reduceAdd, Nat.reduceEqDiff] <;> rfl))
  (hi : i + 1 = i' := by (simp only [Nat.reduceAdd] <;> rfl)) : wpS Γ P ops rid i (o :: os) X [] (regK ops' false Q) := s_by_if0 hg hb hs (spec_eqv ho hx hy hn h2 hr) (fun _ => rfl) hX hi h
theorem a_assertd {x : Operand} {xT t : TypeId} {c : Bool} (u res : Value) {X' : St} {ms : Meta} {i' : Nat} (h : wpS Γ P ops rid i' os X' (acc ++ [ms]) (regK ops' draw Q)) (hr : ∀ w, (Instr.typeAssert u xT t c).run P w = .ok res w) (hg : o.guard = none := by rfl)
  (ho : o.op = .typeAssert x xT t c := by rfl)
  (hs : stepF P rid i X o = none := by (simp only [push_cast, reduceCtorEq, Nat.reduceAdd, Nat.reduceSub, Nat.reduceMul, Nat.reduceEqDiff, Nat.reduceLT, Nat.reduceLeDiff, Nat.reduceMod, Nat.reduceDiv, Int.reduceLE, Int.reduceLT, Int.reduceEq, Int.reduceToNat, Int.reduceAdd, Int.reduceSub, Int.reduceMul, Int.reduceNeg]))
  (hx : (ev X x).plain = some u := by rfl)
  (hX : X.app o.dst { val := .t (.v res) } = X' := by (simp only [push_cast, reduceCtorEq, Nat.reduceAdd, Nat.reduceEqDiff] <;> rfl))
  (hm : (Rec.info { val := .t (.v res) }) = ms := by (simp only [Rec.info, push_cast, reduceCtorEq, Nat.reduceAdd, Nat.reduceEqDiff] <;> rfl))
  (hi : i + 1 = i' := by (simp only [Nat.reduceAdd] <;> rfl)) : wpS Γ P ops rid i (o :: os) X acc (regK ops' draw Q) := s_by hg hs (spec_assert ho hx hr) (fun _ => rfl) hX hm hi h
theorem a_eqvd {op : BinOp} {t ty : TypeId} {x y : Operand} {u v : Value} (res : Value) {X' : St} {ms : Meta} {i' : Nat} (h : wpS Γ P ops rid i' os X' (acc ++ [ms]) (regK ops' draw Q)) (hr : ∀ w, (binOp op t u v).run P w = .ok res w) (hg : o.guard = none := by rfl)
  (ho : o.op = .binOp op t x y ty := by rfl)
  (hs : stepF P rid i X o = none := by (simp only [push_cast, reduceCtorEq, Nat.reduceAdd, Nat.reduceSub, Nat.reduceMul, Nat.reduceEqDiff, Nat.reduceLT, Nat.reduceLeDiff, Nat.reduceMod, Nat.reduceDiv, Int.reduceLE, Int.reduceLT, Int.reduceEq, Int.reduceToNat, Int.reduceAdd, Int.reduceSub, Int.reduceMul, Int.reduceNeg]))
  (hx : (ev X x).plain = some u := by rfl)
  (hy : (ev X y).plain = some v := by rfl)
  (hn : ¬ (u = .nilIface ∧ v = .nilIface) := by (rintro ⟨h, _⟩; cases h))
  (h2 : ∀ c d, u = .agg c → v = .agg d → False := by (intro c d h; cases h))
  (hX : X.app o.dst { val := .t (.v res) } = X' := by (simp only [push_cast, reduceCtorEq, Nat.reduceAdd, Nat.reduceEqDiff] <;> rfl))
  (hm : (Rec.info { val := .t (.v res) }) = ms := by (simp only [Rec.info, push_cast, reduceCtorEq, Nat.reduceAdd, Nat.reduceEqDiff] <;> rfl))
  (hi : i + 1 = i' := by (simp only [Nat.reduceAdd] <;> rfl)) : wpS Γ P ops rid i (o :: os) X acc (regK ops' draw Q) := s_by hg hs (spec_eqv ho hx hy hn h2 hr) (fun _ => rfl) hX hm hi h
theorem a_assertgod {gi : Nat} {want : Bool} {x : Operand} {xT t : TypeId} {c : Bool} (u res : Value) {X' : St} {ms : Meta} {i' : Nat} (h : wpS Γ P ops rid i' os X' (acc ++ [ms]) (regK ops' draw Q)) (hr : ∀ w, (Instr.typeAssert u xT t c).run P w = .ok res w) (hg : o.guard = some (gi, want) := by rfl)
  (hb : wantIs (gslot ops X gi) want = some true := by (simp only [gslot, Option.bind_some, push_cast, reduceCtorEq, Nat.reduceAdd, Nat.reduceSub, Nat.reduceMul, Nat.reduceEqDiff, Nat.reduceLT, Nat.reduceLeDiff, Nat.reduceMod, Nat.reduceDiv, Int.reduceLE, Int.reduceLT, Int.reduceEq, Int.reduceToNat, Int.reduceAdd, Int.reduceSub, Int.reduceMul, Int.reduceNeg] <;> rfl))
  (ho : o.op = .typeAssert x xT t c := by rfl)
  (hs : stepF P rid i X o = none := by (simp only [push_cast, reduceCtorEq, Nat.reduceAdd, Nat.reduceSub, Nat.reduceMul, Nat.reduceEqDiff, Nat.reduceLT, Nat.reduceLeDiff, Nat.reduceMod, Nat.reduceDiv, Int.reduceLE, Int.reduceLT, Int.reduceEq, Int.reduceToNat, Int.reduceAdd, Int.reduceSub, Int.reduceMul, Int.reduceNeg]))
  (hx : (ev X x).plain = some u := by rfl)
  (hX : X.app o.dst { val := .t (.v res) } = X' := by (simp only [push_cast, reduceCtorEq, Nat.reduceAdd, Nat.reduceEqDiff] <;> rfl))
  (hm : (Rec.info { val := .t (.v res) }) = ms := by (simp only [Rec.info, push_cast, reduceCtorEq, Nat.reduceAdd, Nat.reduceEqDiff] <;> rfl))
  (hi : i + 1 = i' := by (simp only [Nat.reduceAdd] <;> rfl)) : wpS Γ P ops rid i (o :: os) X acc (regK ops' draw Q) := s_by_if hg hb hs (spec_assert ho hx hr) (fun _ => rfl) hX hm hi h
theorem a_eqvgod {gi : Nat} {want : Bool} {op : BinOp} {t ty : TypeId} {x y : Operand} {u v : Value} (res : Value) {X' : St} {ms : Meta} {i' : Nat} (h : wpS Γ P ops rid i' os X' (acc ++ [ms]) (regK ops' draw Q)) (hr : ∀ w, (binOp op t u v).run P w = .ok res w) (hg : o.guard = some (gi, want) := by rfl)
  (hb : wantIs (gslot ops X gi) want = some true := by (simp only [gslot, Option.bind_some, push_cast, reduceCtorEq, Nat.reduceAdd, Nat.reduceSub, Nat.reduceMul, Nat.reduceEqDiff, Nat.reduceLT, Nat.reduceLeDiff, Nat.reduceMod, Nat.reduceDiv, Int.reduceLE, Int.reduceLT, Int.reduceEq, Int.reduceToNat, Int.reduceAdd, Int.reduceSub, Int.reduceMul, Int.reduceNeg] <;> rfl))
  (ho : o.op = .binOp op t x y ty := by rfl)
  (hs : stepF P rid i X o = none := by (simp only [push_cast, reduceCtorEq, Nat.reduceAdd, Nat.reduceSub, Nat.reduceMul, Nat.reduceEqDiff, Nat.reduceLT, Nat.reduceLeDiff, Nat.reduceMod, Nat.reduceDiv, Int.reduceLE, Int.reduceLT, Int.reduceEq, Int.reduceToNat, Int.reduceAdd, Int.reduceSub, Int.reduceMul, Int.reduceNeg]))
  (hx : (ev X x).plain = some u := by rfl)
  (hy : (ev X y).plain = some v := by rfl)
  (hn : ¬ (u = .nilIface ∧ v = .nilIface) := by (rintro ⟨h, _⟩; cases h))
  (h2 : ∀ c d, u = .agg c → v = .agg d → False := by (intro c d h; cases h))
  (hX : X.app o.dst { val := .t (.v res) } = X' := by (simp only [push_cast, reduceCtorEq, Nat.reduceAdd, Nat.reduceEqDiff] <;> rfl))
  (hm : (Rec.info { val := .t (.v res) }) = ms := by (simp only [Rec.info, push_cast, reduceCtorEq, Nat.reduceAdd, Nat.reduceEqDiff] <;> rfl))
  (hi : i + 1 = i' := by (simp only [Nat.reduceAdd] <;> rfl)) : wpS Γ P ops rid i (o :: os) X acc (regK ops' draw Q) := s_by_if hg hb hs (spec_eqv ho hx hy hn h2 hr) (fun _ => rfl) hX hm hi h
end

section
variable {Γ : Gl} {P : Program} {X : St} {ops ops' : Array Oper} {rid i : Nat} {o : Oper} {os : List Oper} {acc : List Meta} {Q : Exit → St → Prop} {K : St → List Meta → Prop} {draw : Bool}
/-- A call of a function without a body (an external), by what it gives. -/
theorem spec_ext {f : FuncId} {args : Array Operand} {tys : Array TypeId} (us : Array Value) {res : Value} (h : o.op = .call { callee := .value (.func f), args := args, argTypes := tys })
    (hp : args.toList.all (fun x => ((ev X x).plain).isSome) = true) (hu : args.map (fun x => ((ev X x).plain).getD undef) = us) (hr : ∀ w, (callFunc f us).run P w = .ok (.value res) w) : OpSpec Γ P o X { val := .t (.v res) } := by
  have hf : (fun x => ((ev X x).plain).getD undef) (.func f) = .func (.func f) #[] #[] := rfl
  refine spec_plain (by intro cs b e; rw [h] at e; cases e) (fun z hz => ?_) res (fun w => ?_)
  · rw [h] at hz
    simp [Op.operands, Call.operands] at hz
    rcases hz with rfl | hz
    · rfl
    · exact List.all_eq_true.1 hp z (by simpa using hz)
  · simp only [execOp, h, resolve, hf, hu, Deferred.ofValue, Sem.run_bind, Sem.run_pure, Result.andThen_ok, invoke]
    simp [hr]
/-- A method of a plain value behind an interface that is an external. -/
theorem spec_extm {rx : Operand} {name : String} {tys : Array TypeId} {ty : TypeId} {v v' : Value} {f : FuncId} {res : Value} (h : o.op = .call { callee := .invoke rx name, args := #[], argTypes := tys })
    (hx : (ev X rx).plain = some (.iface ty v)) (hm : ∀ w, (method (P.types.size + Made.depth) ty v name).run P w = .ok (f, v') w) (hr : ∀ w, (callFunc f #[v']).run P w = .ok (.value res) w) : OpSpec Γ P o X { val := .t (.v res) } := by
  refine spec_plain (by intro cs b e; rw [h] at e; cases e) (fun z hz => ?_) res (fun w => ?_)
  · rw [h] at hz
    simp [Op.operands, Call.operands] at hz
    rw [hz, hx]; rfl
  · simp only [execOp, h, resolve, hx, Option.getD_some, Sem.run_bind, Sem.run_pure, Result.andThen_ok, invoke, callMethod]
    have hm' := hm w
    have hp : (do pure (← program) : Sem Program).run P w = .ok P w := rfl
    simp [hm', hr]
theorem a_ext {f : FuncId} {args : Array Operand} {tys : Array TypeId} (us : Array Value) (res : Value) {X' : St} {i' : Nat} (h : wpS Γ P ops rid i' os X' [] (regK ops' false Q)) (hr : ∀ w, (callFunc f us).run P w = .ok (.value res) w) (hg : o.guard = none := by rfl)
  (ho : o.op = .call { callee := .value (.func f), args := args, argTypes := tys } := by rfl)
  (hp : args.toList.all (fun x => ((ev X x).plain).isSome) = true := by kernel_rfl)
  (hu : args.map (fun x => ((ev X x).plain).getD undef) = us := by kernel_rfl)
  (hs : stepF P rid i X o = none := by (first | (simp only [push_cast, reduceCtorEq, Nat.reduceAdd, Nat.reduceSub, Nat.reduceMul, Nat.reduceEqDiff, Nat.reduceLT, Nat.reduceLeDiff, Nat.reduceMod, Nat.reduceDiv, Int.reduceLE, Int.reduceLT, Int.reduceEq, Int.reduceToNat, Int.reduceAdd, Int.reduceSub, Int.reduceMul, Int.reduceNeg]) | (simp only [stepF, callF])))
  (hX : X.app o.dst { val := .t (.v res) } = X' := by (simp only [push_cast, reduceCtorEq, Nat.reduceAdd, Nat.reduceEqDiff] <;> rfl))
  (hi : i + 1 = i' := by (simp only [Nat.reduceAdd] <;> rfl)) : wpS Γ P ops rid i (o :: os) X [] (regK ops' false Q) := s_by0 hg hs (spec_ext us ho hp hu hr) (fun _ => rfl) hX hi h
theorem a_extd {f : FuncId} {args : Array Operand} {tys : Array TypeId} (us : Array Value) (res : Value) {X' : St} {ms : Meta} {i' : Nat} (h : wpS Γ P ops rid i' os X' (acc ++ [ms]) (regK ops' draw Q)) (hr : ∀ w, (callFunc f us).run P w = .ok (.value res) w) (hg : o.guard = none := by rfl)
  (ho : o.op = .call { callee := .value (.func f), args := args, argTypes := tys } := by rfl)
  (hp : args.toList.all (fun x => ((ev X x).plain).isSome) = true := by kernel_rfl)
  (hu : args.map (fun x => ((ev X x).plain).getD undef) = us := by kernel_rfl)
  (hs : stepF P rid i X o = none := by (first | (simp only [push_cast, reduceCtorEq, Nat.reduceAdd, Nat.reduceSub, Nat.reduceMul, Nat.reduceEqDiff, Nat.reduceLT, Nat.reduceLeDiff, Nat.reduceMod, Nat.reduceDiv, Int.reduceLE, Int.reduceLT, Int.reduceEq, Int.reduceToNat, Int.reduceAdd, Int.reduceSub, Int.reduceMul, Int.reduceNeg]) | (simp only [stepF, callF])))
  (hX : X.app o.dst { val := .t (.v res) } = X' := by (simp only [push_cast, reduceCtorEq, Nat.reduceAdd, Nat.reduceEqDiff] <;> rfl))
  (hm : (Rec.info { val := .t (.v res) }) = ms := by (simp only [Rec.info, push_cast, reduceCtorEq, Nat.reduceAdd, Nat.reduceEqDiff] <;> rfl))
  (hi : i + 1 = i' := by (simp only [Nat.reduceAdd] <;> rfl)) : wpS Γ P ops rid i (o :: os) X acc (regK ops' draw Q) := s_by hg hs (spec_ext us ho hp hu hr) (fun _ => rfl) hX hm hi h
theorem a_extgo {gi : Nat} {want : Bool} {f : FuncId} {args : Array Operand} {tys : Array TypeId} (us : Array Value) (res : Value) {X' : St} {i' : Nat} (h : wpS Γ P ops rid i' os X' [] (regK ops' false Q)) (hr : ∀ w, (callFunc f us).run P w = .ok (.value res) w) (hg : o.guard = some (gi, want) := by rfl)
  (hb : wantIs (gslot ops X gi) want = some true := by (simp only [gslot, Option.bind_some, push_cast, reduceCtorEq, Nat.reduceAdd, Nat.reduceSub, Nat.reduceMul, Nat.reduceEqDiff, Nat.reduceLT, Nat.reduceLeDiff, Nat.reduceMod, Nat.reduceDiv, Int.reduceLE, Int.reduceLT, Int.reduceEq, Int.reduceToNat, Int.reduceAdd, Int.reduceSub, Int.reduceMul, Int.reduceNeg] <;> rfl))
  (ho : o.op = .call { callee := .value (.func f), args := args, argTypes := tys } := by rfl)
  (hp : args.toList.all (fun x => ((ev X x).plain).isSome) = true := by kernel_rfl)
  (hu : args.map (fun x => ((ev X x).plain).getD undef) = us := by kernel_rfl)
  (hs : stepF P rid i X o = none := by (first | (simp only [push_cast, reduceCtorEq, Nat.reduceAdd, Nat.reduceSub, Nat.reduceMul, Nat.reduceEqDiff, Nat.reduceLT, Nat.reduceLeDiff, Nat.reduceMod, Nat.reduceDiv, Int.reduceLE, Int.reduceLT, Int.reduceEq, Int.reduceToNat, Int.reduceAdd, Int.reduceSub, Int.reduceMul, Int.reduceNeg]) | (simp only [stepF, callF])))
  (hX : X.app o.dst { val := .t (.v res) } = X' := by (simp only [push_cast, reduceCtorEq, Nat.reduceAdd, Nat.reduceEqDiff] <;> rfl))
  (hi : i + 1 = i' := by (simp only [Nat.reduceAdd] <;> rfl)) : wpS Γ P ops rid i (o :: os) X [] (regK ops' false Q) := s_by_if0 hg hb hs (spec_ext us ho hp hu hr) (fun _ => rfl) hX hi h
theorem a_extgod {gi : Nat} {want : Bool} {f : FuncId} {args : Array Operand} {tys : Array TypeId} (us : Array Value) (res : Value) {X' : St} {ms : Meta} {i' : Nat} (h : wpS Γ P ops rid i' os X' (acc ++ [ms]) (regK ops' draw Q)) (hr : ∀ w, (callFunc f us).run P w = .ok (.value res) w) (hg : o.guard = some (gi, want) := by rfl)
  (hb : wantIs (gslot ops X gi) want = some true := by (simp only [gslot, Option.bind_some, push_cast, reduceCtorEq, Nat.reduceAdd, Nat.reduceSub, Nat.reduceMul, Nat.reduceEqDiff, Nat.reduceLT, Nat.reduceLeDiff, Nat.reduceMod, Nat.reduceDiv, Int.reduceLE, Int.reduceLT, Int.reduceEq, Int.reduceToNat, Int.reduceAdd, Int.reduceSub, Int.reduceMul, Int.reduceNeg] <;> rfl))
  (ho : o.op = .call { callee := .value (.func f), args := args, argTypes := tys } := by rfl)
  (hp : args.toList.all (fun x => ((ev X x).plain).isSome) = true := by kernel_rfl)
  (hu : args.map (fun x => ((ev X x).plain).getD undef) = us := by kernel_rfl)
  (hs : stepF P rid i X o = none := by (first | (simp only [push_cast, reduceCtorEq, Nat.reduceAdd, Nat.reduceSub, Nat.reduceMul, Nat.reduceEqDiff, Nat.reduceLT, Nat.reduceLeDiff, Nat.reduceMod, Nat.reduceDiv, Int.reduceLE, Int.reduceLT, Int.reduceEq, Int.reduceToNat, Int.reduceAdd, Int.reduceSub, Int.reduceMul, Int.reduceNeg]) | (simp only [stepF, callF])))
  (hX : X.app o.dst { val := .t (.v res) } = X' := by (simp only [push_cast, reduceCtorEq, Nat.reduceAdd, Nat.reduceEqDiff] <;> rfl))
  (hm : (Rec.info { val := .t (.v res) }) = ms := by (simp only [Rec.info, push_cast, reduceCtorEq, Nat.reduceAdd, Nat.reduceEqDiff] <;> rfl))
  (hi : i + 1 = i' := by (simp only [Nat.reduceAdd] <;> rfl)) : wpS Γ P ops rid i (o :: os) X acc (regK ops' draw Q) := s_by_if hg hb hs (spec_ext us ho hp hu hr) (fun _ => rfl) hX hm hi h
theorem a_extm {rx : Operand} {name : String} {tys : Array TypeId} {ty : TypeId} {v v' : Value} {f : FuncId} (res : Value) {X' : St} {i' : Nat} (h : wpS Γ P ops rid i' os X' [] (regK ops' false Q)) (hm1 : ∀ w, (method (P.types.size + Made.depth) ty v name).run P w = .ok (f, v') w) (hr : ∀ w, (callFunc f #[v']).run P w = .ok (.value res) w) (hg : o.guard = none := by rfl)
  (ho : o.op = .call { callee := .invoke rx name, args := #[], argTypes := tys } := by rfl)
  (hx : (ev X rx).plain = some (.iface ty v) := by rfl)
  (hs : stepF P rid i X o = none := by (first | (simp only [push_cast, reduceCtorEq, Nat.reduceAdd, Nat.reduceSub, Nat.reduceMul, Nat.reduceEqDiff, Nat.reduceLT, Nat.reduceLeDiff, Nat.reduceMod, Nat.reduceDiv, Int.reduceLE, Int.reduceLT, Int.reduceEq, Int.reduceToNat, Int.reduceAdd, Int.reduceSub, Int.reduceMul, Int.reduceNeg]) | (simp only [stepF, callF])))
  (hX : X.app o.dst { val := .t (.v res) } = X' := by (simp only [push_cast, reduceCtorEq, Nat.reduceAdd, Nat.reduceEqDiff] <;> rfl))
  (hi : i + 1 = i' := by (simp only [Nat.reduceAdd] <;> rfl)) : wpS Γ P ops rid i (o :: os) X [] (regK ops' false Q) := s_by0 hg hs (spec_extm ho hx hm1 hr) (fun _ => rfl) hX hi h
theorem a_extmd {rx : Operand} {name : String} {tys : Array TypeId} {ty : TypeId} {v v' : Value} {f : FuncId} (res : Value) {X' : St} {ms : Meta} {i' : Nat} (h : wpS Γ P ops rid i' os X' (acc ++ [ms]) (regK ops' draw Q)) (hm1 : ∀ w, (method (P.types.size + Made.depth) ty v name).run P w = .ok (f, v') w) (hr : ∀ w, (callFunc f #[v']).run P w = .ok (.value res) w) (hg : o.guard = none := by rfl)
  (ho : o.op = .call { callee := .invoke rx name, args := #[], argTypes := tys } := by rfl)
  (hx : (ev X rx).plain = some (.iface ty v) := by rfl)
  (hs : stepF P rid i X o = none := by (first | (simp only [push_cast, reduceCtorEq, Nat.reduceAdd, Nat.reduceSub, Nat.reduceMul, Nat.reduceEqDiff, Nat.reduceLT, Nat.reduceLeDiff, Nat.reduceMod, Nat.reduceDiv, Int.reduceLE, Int.reduceLT, Int.reduceEq, Int.reduceToNat, Int.reduceAdd, Int.reduceSub, Int.reduceMul, Int.reduceNeg]) | (simp only [stepF, callF])))
  (hX : X.app o.dst { val := .t (.v res) } = X' := by (simp only [push_cast, reduceCtorEq, Nat.reduceAdd, Nat.reduceEqDiff] <;> rfl))
  (hm : (Rec.info { val := .t (.v res) }) = ms := by (simp only [Rec.info, push_cast, reduceCtorEq, Nat.reduceAdd, Nat.reduceEqDiff] <;> rfl))
  (hi : i + 1 = i' := by (simp only [Nat.reduceAdd] <;> rfl)) : wpS Γ P ops rid i (o :: os) X acc (regK ops' draw Q) := s_by hg hs (spec_extm ho hx hm1 hr) (fun _ => rfl) hX hm hi h
theorem a_extmgo {gi : Nat} {want : Bool} {rx : Operand} {name : String} {tys : Array TypeId} {ty : TypeId} {v v' : Value} {f : FuncId} (res : Value) {X' : St} {i' : Nat} (h : wpS Γ P ops rid i' os X' [] (regK ops' false Q)) (hm1 : ∀ w, (method (P.types.size + Made.depth) ty v name).run P w = .ok (f, v') w) (hr : ∀ w, (callFunc f #[v']).run P w = .ok (.value res) w) (hg : o.guard = some (gi, want) := by rfl)
  (hb : wantIs (gslot ops X gi) want = some true := by (simp only [gslot, Option.bind_some, push_cast, reduceCtorEq, Nat.reduceAdd, Nat.reduceSub, Nat.reduceMul, Nat.reduceEqDiff, Nat.reduceLT, Nat.reduceLeDiff, Nat.reduceMod, Nat.reduceDiv, Int.reduceLE, Int.reduceLT, Int.reduceEq, Int.reduceToNat, Int.reduceAdd, Int.reduceSub, Int.reduceMul, Int.reduceNeg] <;> rfl))
  (ho : o.op = .call { callee := .invoke rx name, args := #[], argTypes := tys } := by rfl)
  (hx : (ev X rx).plain = some (.iface ty v) := by rfl)
  (hs : stepF P rid i X o = none := by (first | (simp only [push_cast, reduceCtorEq, Nat.reduceAdd, Nat.reduceSub, Nat.reduceMul, Nat.reduceEqDiff, Nat.reduceLT, Nat.reduceLeDiff, Nat.reduceMod, Nat.reduceDiv, Int.reduceLE, Int.reduceLT, Int.reduceEq, Int.reduceToNat, Int.reduceAdd, Int.reduceSub, Int.reduceMul, Int.reduceNeg]) | (simp only [stepF, callF])))
  (hX : X.app o.dst { val := .t (.v res) } = X' := by (simp only [push_cast, reduceCtorEq, Nat.reduceAdd, Nat.reduceEqDiff] <;> rfl))
  (hi : i + 1 = i' := by (simp only [Nat.reduceAdd] <;> rfl)) : wpS Γ P ops rid i (o :: os) X [] (regK ops' false Q) := s_by_if0 hg hb hs (spec_extm ho hx hm1 hr) (fun _ => rfl) hX hi h
theorem a_extmgod {gi : Nat} {want : Bool} {rx : Operand} {name : String} {tys : Array TypeId} {ty : TypeId} {v v' : Value} {f : FuncId} (res : Value) {X' : St} {ms : Meta} {i' : Nat} (h : wpS Γ P ops rid i' os X' (acc ++ [ms]) (regK ops' draw Q)) (hm1 : ∀ w, (method (P.types.size + Made.depth) ty v name).run P w = .ok (f, v') w) (hr : ∀ w, (callFunc f #[v']).run P w = .ok (.value res) w) (hg : o.guard = some (gi, want) := by rfl)
  (hb : wantIs (gslot ops X gi) want = some true := by (simp only [gslot, Option.bind_some, push_cast, reduceCtorEq, Nat.reduceAdd, Nat.reduceSub, Nat.reduceMul, Nat.reduceEqDiff, Nat.reduceLT, Nat.reduceLeDiff, Nat.reduceMod, Nat.reduceDiv, Int.reduceLE, Int.reduceLT, Int.reduceEq, Int.reduceToNat, Int.reduceAdd, Int.reduceSub, Int.reduceMul, Int.reduceNeg] <;> rfl))
  (ho : o.op = .call { callee := .invoke rx name, args := #[], argTypes := tys } := by rfl)
  (hx : (ev X rx).plain = some (.iface ty v) := by rfl)
  (hs : stepF P rid i X o = none := by (first | (simp only [push_cast, reduceCtorEq, Nat.reduceAdd, Nat.reduceSub, Nat.reduceMul, Nat.reduceEqDiff, Nat.reduceLT, Nat.reduceLeDiff, Nat.reduceMod, Nat.reduceDiv, Int.reduceLE, Int.reduceLT, Int.reduceEq, Int.reduceToNat, Int.reduceAdd, Int.reduceSub, Int.reduceMul, Int.reduceNeg]) | (simp only [stepF, callF])))
  (hX : X.app o.dst { val := .t (.v res) } = X' := by (simp only [push_cast, reduceCtorEq, Nat.reduceAdd, Nat.reduceEqDiff] <;> rfl))
  (hm : (Rec.info { val := .t (.v res) }) = ms := by (simp only [Rec.info, push_cast, reduceCtorEq, Nat.reduceAdd, Nat.reduceEqDiff] <;> rfl))
  (hi : i + 1 = i' := by (simp only [Nat.reduceAdd] <;> rfl)) : wpS Γ P ops rid i (o :: os) X acc (regK ops' draw Q) := s_by_if hg hb hs (spec_extm ho hx hm1 hr) (fun _ => rfl) hX hm hi h
theorem a_nilnil {t u : TypeId} {x y : Operand} (neg : Bool) {X' : St} {i' : Nat} (h : wpS Γ P ops rid i' os X' [] (regK ops' false Q))  (hg : o.guard = none := by rfl)
  (ho : o.op = .binOp (if neg then .neq else .eql) t x y u := by rfl)
  (hx : ev X x = .t (.v .nilIface) := by rfl) (hy : y = .const .nilIface := by rfl) (ht : P.underlying t = some (.interface (P.methodsAt t)) := by (simp only [push_cast]))
  (hs : stepF P rid i X o = none := by (first | (simp only [push_cast, reduceCtorEq, Nat.reduceAdd, Nat.reduceSub, Nat.reduceMul, Nat.reduceEqDiff, Nat.reduceLT, Nat.reduceLeDiff, Nat.reduceMod, Nat.reduceDiv, Int.reduceLE, Int.reduceLT, Int.reduceEq, Int.reduceToNat, Int.reduceAdd, Int.reduceSub, Int.reduceMul, Int.reduceNeg]) | (simp only [stepF, callF])))
  (hX : X.app o.dst { val := .t (.v (.bool !neg)) } = X' := by (simp only [push_cast, reduceCtorEq, Nat.reduceAdd, Nat.reduceEqDiff] <;> rfl))
  (hi : i + 1 = i' := by (simp only [Nat.reduceAdd] <;> rfl)) : wpS Γ P ops rid i (o :: os) X [] (regK ops' false Q) := s_by0 hg hs (spec_nilNil t u x y neg ho hx hy ht) (fun _ => rfl) hX hi h
theorem a_nilnild {t u : TypeId} {x y : Operand} (neg : Bool) {X' : St} {ms : Meta} {i' : Nat} (h : wpS Γ P ops rid i' os X' (acc ++ [ms]) (regK ops' draw Q))  (hg : o.guard = none := by rfl)
  (ho : o.op = .binOp (if neg then .neq else .eql) t x y u := by rfl)
  (hx : ev X x = .t (.v .nilIface) := by rfl) (hy : y = .const .nilIface := by rfl) (ht : P.underlying t = some (.interface (P.methodsAt t)) := by (simp only [push_cast]))
  (hs : stepF P rid i X o = none := by (first | (simp only [push_cast, reduceCtorEq, Nat.reduceAdd, Nat.reduceSub, Nat.reduceMul, Nat.reduceEqDiff, Nat.reduceLT, Nat.reduceLeDiff, Nat.reduceMod, Nat.reduceDiv, Int.reduceLE, Int.reduceLT, Int.reduceEq, Int.reduceToNat, Int.reduceAdd, Int.reduceSub, Int.reduceMul, Int.reduceNeg]) | (simp only [stepF, callF])))
  (hX : X.app o.dst { val := .t (.v (.bool !neg)) } = X' := by (simp only [push_cast, reduceCtorEq, Nat.reduceAdd, Nat.reduceEqDiff] <;> rfl))
  (hm : (Rec.info { val := .t (.v (.bool !neg)) }) = ms := by (simp only [Rec.info, push_cast, reduceCtorEq, Nat.reduceAdd, Nat.reduceEqDiff] <;> rfl))
  (hi : i + 1 = i' := by (simp only [Nat.reduceAdd] <;> rfl)) : wpS Γ P ops rid i (o :: os) X acc (regK ops' draw Q) := s_by hg hs (spec_nilNil t u x y neg ho hx hy ht) (fun _ => rfl) hX hm hi h
theorem a_nilnilgo {gi : Nat} {want : Bool} {t u : TypeId} {x y : Operand} (neg : Bool) {X' : St} {i' : Nat} (h : wpS Γ P ops rid i' os X' [] (regK ops' false Q))  (hg : o.guard = some (gi, want) := by rfl)
  (hb : wantIs (gslot ops X gi) want = some true := by (simp only [gslot, Option.bind_some, push_cast, reduceCtorEq, Nat.reduceAdd, Nat.reduceSub, Nat.reduceMul, Nat.reduceEqDiff, Nat.reduceLT, Nat.reduceLeDiff, Nat.reduceMod, Nat.reduceDiv, Int.reduceLE, Int.reduceLT, Int.reduceEq, Int.reduceToNat, Int.reduceAdd, Int.reduceSub, Int.reduceMul, Int.reduceNeg] <;> rfl))
  (ho : o.op = .binOp (if neg then .neq else .eql) t x y u := by rfl)
  (hx : ev X x = .t (.v .nilIface) := by rfl) (hy : y = .const .nilIface := by rfl) (ht : P.underlying t = some (.interface (P.methodsAt t)) := by (simp only [push_cast]))
  (hs : stepF P rid i X o = none := by (first | (simp only [push_cast, reduceCtorEq, Nat.reduceAdd, Nat.reduceSub, Nat.reduceMul, Nat.reduceEqDiff, Nat.reduceLT, Nat.reduceLeDiff, Nat.reduceMod, Nat.reduceDiv, Int.reduceLE, Int.reduceLT, Int.reduceEq, Int.reduceToNat, Int.reduceAdd, Int.reduceSub, Int.reduceMul, Int.reduceNeg]) | (simp only [stepF, callF])))
  (hX : X.app o.dst { val := .t (.v (.bool !neg)) } = X' := by (simp only [push_cast, reduceCtorEq, Nat.reduceAdd, Nat.reduceEqDiff] <;> rfl))
  (hi : i + 1 = i' := by (simp only [Nat.reduceAdd] <;> rfl)) : wpS Γ P ops rid i (o :: os) X [] (regK ops' false Q) := s_by_if0 hg hb hs (spec_nilNil t u x y neg ho hx hy ht) (fun _ => rfl) hX hi h
theorem a_nilnilgod {gi : Nat} {want : Bool} {t u : TypeId} {x y : Operand} (neg : Bool) {X' : St} {ms : Meta} {i' : Nat} (h : wpS Γ P ops rid i' os X' (acc ++ [ms]) (regK ops' draw Q))  (hg : o.guard = some (gi, want) := by rfl)
  (hb : wantIs (gslot ops X gi) want = some true := by (simp only [gslot, Option.bind_some, push_cast, reduceCtorEq, Nat.reduceAdd, Nat.reduceSub, Nat.reduceMul, Nat.reduceEqDiff, Nat.reduceLT, Nat.reduceLeDiff, Nat.reduceMod, Nat.reduceDiv, Int.reduceLE, Int.reduceLT, Int.reduceEq, Int.reduceToNat, Int.reduceAdd, Int.reduceSub, Int.reduceMul, Int.reduceNeg] <;> rfl))
  (ho : o.op = .binOp (if neg then .neq else .eql) t x y u := by rfl)
  (hx : ev X x = .t (.v .nilIface) := by rfl) (hy : y = .const .nilIface := by rfl) (ht : P.underlying t = some (.interface (P.methodsAt t)) := by (simp only [push_cast]))
  (hs : stepF P rid i X o = none := by (first | (simp only [push_cast, reduceCtorEq, Nat.reduceAdd, Nat.reduceSub, Nat.reduceMul, Nat.reduceEqDiff, Nat.reduceLT, Nat.reduceLeDiff, Nat.reduceMod, Nat.reduceDiv, Int.reduceLE, Int.reduceLT, Int.reduceEq, Int.reduceToNat, Int.reduceAdd, Int.reduceSub, Int.reduceMul, Int.reduceNeg]) | (simp only [stepF, callF])))
  (hX : X.app o.dst { val := .t (.v (.bool !neg)) } = X' := by (simp only [push_cast, reduceCtorEq, Nat.reduceAdd, Nat.reduceEqDiff] <;> rfl))
  (hm : (Rec.info { val := .t (.v (.bool !neg)) }) = ms := by (simp only [Rec.info, push_cast, reduceCtorEq, Nat.reduceAdd, Nat.reduceEqDiff] <;> rfl))
  (hi : i + 1 = i' := by (simp only [Nat.reduceAdd] <;> rfl)) : wpS Γ P ops rid i (o :: os) X acc (regK ops' draw Q) := s_by_if hg hb hs (spec_nilNil t u x y neg ho hx hy ht) (fun _ => rfl) hX hm hi h
theorem a_isnil {t u : TypeId} {x y : Operand} (neg : Bool) {X' : St} {i' : Nat} (h : wpS Γ P ops rid i' os X' [] (regK ops' false Q))  (hg : o.guard = none := by rfl)
  (ho : o.op = .binOp (if neg then .neq else .eql) t x y u := by rfl)
  (hx : (∃ q z, ev X x = .t (.ifc q z)) ∨ ∃ q z, ev X x = .ifc q z := by first | exact .inl ⟨_, _, rfl⟩ | exact .inr ⟨_, _, rfl⟩) (hy : y = .const .nilIface := by rfl) (ht : P.underlying t = some (.interface (P.methodsAt t)) := by (simp only [push_cast]))
  (hs : stepF P rid i X o = none := by (first | (simp only [push_cast, reduceCtorEq, Nat.reduceAdd, Nat.reduceSub, Nat.reduceMul, Nat.reduceEqDiff, Nat.reduceLT, Nat.reduceLeDiff, Nat.reduceMod, Nat.reduceDiv, Int.reduceLE, Int.reduceLT, Int.reduceEq, Int.reduceToNat, Int.reduceAdd, Int.reduceSub, Int.reduceMul, Int.reduceNeg]) | (simp only [stepF, callF])))
  (hX : X.app o.dst { val := .t (.v (.bool neg)) } = X' := by (simp only [push_cast, reduceCtorEq, Nat.reduceAdd, Nat.reduceEqDiff] <;> rfl))
  (hi : i + 1 = i' := by (simp only [Nat.reduceAdd] <;> rfl)) : wpS Γ P ops rid i (o :: os) X [] (regK ops' false Q) := s_by0 hg hs (spec_isNil t u x y neg ho hx hy ht) (fun _ => rfl) hX hi h
theorem a_isnild {t u : TypeId} {x y : Operand} (neg : Bool) {X' : St} {ms : Meta} {i' : Nat} (h : wpS Γ P ops rid i' os X' (acc ++ [ms]) (regK ops' draw Q))  (hg : o.guard = none := by rfl)
  (ho : o.op = .binOp (if neg then .neq else .eql) t x y u := by rfl)
  (hx : (∃ q z, ev X x = .t (.ifc q z)) ∨ ∃ q z, ev X x = .ifc q z := by first | exact .inl ⟨_, _, rfl⟩ | exact .inr ⟨_, _, rfl⟩) (hy : y = .const .nilIface := by rfl) (ht : P.underlying t = some (.interface (P.methodsAt t)) := by (simp only [push_cast]))
  (hs : stepF P rid i X o = none := by (first | (simp only [push_cast, reduceCtorEq, Nat.reduceAdd, Nat.reduceSub, Nat.reduceMul, Nat.reduceEqDiff, Nat.reduceLT, Nat.reduceLeDiff, Nat.reduceMod, Nat.reduceDiv, Int.reduceLE, Int.reduceLT, Int.reduceEq, Int.reduceToNat, Int.reduceAdd, Int.reduceSub, Int.reduceMul, Int.reduceNeg]) | (simp only [stepF, callF])))
  (hX : X.app o.dst { val := .t (.v (.bool neg)) } = X' := by (simp only [push_cast, reduceCtorEq, Nat.reduceAdd, Nat.reduceEqDiff] <;> rfl))
  (hm : (Rec.info { val := .t (.v (.bool neg)) }) = ms := by (simp only [Rec.info, push_cast, reduceCtorEq, Nat.reduceAdd, Nat.reduceEqDiff] <;> rfl))
  (hi : i + 1 = i' := by (simp only [Nat.reduceAdd] <;> rfl)) : wpS Γ P ops rid i (o :: os) X acc (regK ops' draw Q) := s_by hg hs (spec_isNil t u x y neg ho hx hy ht) (fun _ => rfl) hX hm hi h
theorem a_isnilgo {gi : Nat} {want : Bool} {t u : TypeId} {x y : Operand} (neg : Bool) {X' : St} {i' : Nat} (h : wpS Γ P ops rid i' os X' [] (regK ops' false Q))  (hg : o.guard = some (gi, want) := by rfl)
  (hb : wantIs (gslot ops X gi) want = some true := by (simp only [gslot, Option.bind_some, push_cast, reduceCtorEq, Nat.reduceAdd, Nat.reduceSub, Nat.reduceMul, Nat.reduceEqDiff, Nat.reduceLT, Nat.reduceLeDiff, Nat.reduceMod, Nat.reduceDiv, Int.reduceLE, Int.reduceLT, Int.reduceEq, Int.reduceToNat, Int.reduceAdd, Int.reduceSub, Int.reduceMul, Int.reduceNeg] <;> rfl))
  (ho : o.op = .binOp (if neg then .neq else .eql) t x y u := by rfl)
  (hx : (∃ q z, ev X x = .t (.ifc q z)) ∨ ∃ q z, ev X x = .ifc q z := by first | exact .inl ⟨_, _, rfl⟩ | exact .inr ⟨_, _, rfl⟩) (hy : y = .const .nilIface := by rfl) (ht : P.underlying t = some (.interface (P.methodsAt t)) := by (simp only [push_cast]))
  (hs : stepF P rid i X o = none := by (first | (simp only [push_cast, reduceCtorEq, Nat.reduceAdd, Nat.reduceSub, Nat.reduceMul, Nat.reduceEqDiff, Nat.reduceLT, Nat.reduceLeDiff, Nat.reduceMod, Nat.reduceDiv, Int.reduceLE, Int.reduceLT, Int.reduceEq, Int.reduceToNat, Int.reduceAdd, Int.reduceSub, Int.reduceMul, Int.reduceNeg]) | (simp only [stepF, callF])))
  (hX : X.app o.dst { val := .t (.v (.bool neg)) } = X' := by (simp only [push_cast, reduceCtorEq, Nat.reduceAdd, Nat.reduceEqDiff] <;> rfl))
  (hi : i + 1 = i' := by (simp only [Nat.reduceAdd] <;> rfl)) : wpS Γ P ops rid i (o :: os) X [] (regK ops' false Q) := s_by_if0 hg hb hs (spec_isNil t u x y neg ho hx hy ht) (fun _ => rfl) hX hi h
theorem a_isnilgod {gi : Nat} {want : Bool} {t u : TypeId} {x y : Operand} (neg : Bool) {X' : St} {ms : Meta} {i' : Nat} (h : wpS Γ P ops rid i' os X' (acc ++ [ms]) (regK ops' draw Q))  (hg : o.guard = some (gi, want) := by rfl)
  (hb : wantIs (gslot ops X gi) want = some true := by (simp only [gslot, Option.bind_some, push_cast, reduceCtorEq, Nat.reduceAdd, Nat.reduceSub, Nat.reduceMul, Nat.reduceEqDiff, Nat.reduceLT, Nat.reduceLeDiff, Nat.reduceMod, Nat.reduceDiv, Int.reduceLE, Int.reduceLT, Int.reduceEq, Int.reduceToNat, Int.reduceAdd, Int.reduceSub, Int.reduceMul, Int.reduceNeg] <;> rfl))
  (ho : o.op = .binOp (if neg then .neq else .eql) t x y u := by rfl)
  (hx : (∃ q z, ev X x = .t (.ifc q z)) ∨ ∃ q z, ev X x = .ifc q z := by first | exact .inl ⟨_, _, rfl⟩ | exact .inr ⟨_, _, rfl⟩) (hy : y = .const .nilIface := by rfl) (ht : P.underlying t = some (.interface (P.methodsAt t)) := by (simp only [push_cast]))
  (hs : stepF P rid i X o = none := by (first | (simp only [push_cast, reduceCtorEq, Nat.reduceAdd, Nat.reduceSub, Nat.reduceMul, Nat.reduceEqDiff, Nat.reduceLT, Nat.reduceLeDiff, Nat.reduceMod, Nat.reduceDiv, Int.reduceLE, Int.reduceLT, Int.reduceEq, Int.reduceToNat, Int.reduceAdd, Int.reduceSub, Int.reduceMul, Int.reduceNeg]) | (simp only [stepF, callF])))
  (hX : X.app o.dst { val := .t (.v (.bool neg)) } = X' := by (simp only [push_cast, reduceCtorEq, Nat.reduceAdd, Nat.reduceEqDiff] <;> rfl))
  (hm : (Rec.info { val := .t (.v (.bool neg)) }) = ms := by (simp only [Rec.info, push_cast, reduceCtorEq, Nat.reduceAdd, Nat.reduceEqDiff] <;> rfl))
  (hi : i + 1 = i' := by (simp only [Nat.reduceAdd] <;> rfl)) : wpS Γ P ops rid i (o :: os) X acc (regK ops' draw Q) := s_by_if hg hb hs (spec_isNil t u x y neg ho hx hy ht) (fun _ => rfl) hX hm hi h
end
end Go.Ot
