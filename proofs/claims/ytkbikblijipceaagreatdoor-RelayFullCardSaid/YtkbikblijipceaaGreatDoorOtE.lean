/- Interface values that are plain data: assertions, methods, functions of the library without a body. -/
import Derived.Test.YtkbikblijipceaaGreatDoorOtD
import Derived.KernelRfl
import Derived.Laws.Externs
import Derived.Stop.Asserts
import Derived.LaidEqlPtr
import Derived.Lib.Builder
import Derived.Lib.UnsafeStr
import Derived.Laws.StructEq
import Derived.Lib.SliceRun
set_option linter.unusedVariables false
set_option linter.unusedSimpArgs false
namespace Go.Ot
mutual
def T.plain : T → Option Value
 | .v x => some x
 | .sl _ _ => none
 | .ifc t d => (T.plain d).map (.iface t)
 | .agg cs => (T.plains cs).map fun vs => .agg vs.toArray
def T.plains : List T → Option (List Value)
 | [] => some []
 | c :: cs => match T.plain c, T.plains cs with
  | some x, some xs => some (x :: xs)
  | _, _ => none
end
mutual
def D.plain : D → Option Value
 | .t x => x.plain
 | .ifc ty d => (D.plain d).map (.iface ty)
 | .agg cs => (D.plains cs).map fun vs => .agg vs.toArray
 | .fn f [] => some (.func (.func f) #[] #[])
 | _ => none
def D.plains : List D → Option (List Value)
 | [] => some []
 | c :: cs => match D.plain c, D.plains cs with
  | some x, some xs => some (x :: xs)
  | _, _ => none
end
mutual
theorem RepT.plain {w : World} {M : Nat → Prop} : ∀ (x : T) (u v : Value), RepT w M x u → x.plain = some v → u = v
 | .v x, u, v, h, hv => by simp only [T.plain, Option.some.injEq] at hv; rw [← hv]; exact h
 | .sl _ _, u, v, h, hv => by simp [T.plain] at hv
 | .ifc t d, u, v, h, hv => by
  simp only [T.plain, Option.map_eq_some_iff] at hv
  obtain ⟨y, hy, rfl⟩ := hv
  obtain ⟨z, rfl, hz⟩ := h
  rw [RepT.plain d z y hz hy]
 | .agg cs, u, v, h, hv => by
  simp only [T.plain, Option.map_eq_some_iff] at hv
  obtain ⟨ys, hy, rfl⟩ := hv
  obtain ⟨vs, rfl, hz⟩ := h
  rw [← RepTs.plains cs _ ys hz hy]
theorem RepTs.plains {w : World} {M : Nat → Prop} : ∀ (cs : List T) (us vs : List Value), RepTs w M cs us → T.plains cs = some vs → us = vs
 | [], us, vs, h, hv => by simp only [T.plains, Option.some.injEq] at hv; rw [← hv]; exact h
 | c :: cs, us, vs, h, hv => by
  simp only [T.plains] at hv
  split at hv
  ·rename_i x xs h1 h2
   cases hv
   obtain ⟨u, us', rfl, _, h3, h4⟩ := h
   rw [RepT.plain c u x h3 h1, RepTs.plains cs us' xs h4 h2]
  ·cases hv
end
mutual
theorem Rep.plain {w : World} {M : Nat → Prop} {η : Et} : ∀ (d : D) (u v : Value), Rep w M η d u → d.plain = some v → u = v
 | .t x, u, v, h, hv => RepT.plain x u v h hv
 | .ifc t d, u, v, h, hv => by
  simp only [D.plain, Option.map_eq_some_iff] at hv
  obtain ⟨y, hy, rfl⟩ := hv
  obtain ⟨z, rfl, hz⟩ := h
  rw [Rep.plain d z y hz hy]
 | .agg cs, u, v, h, hv => by
  simp only [D.plain, Option.map_eq_some_iff] at hv
  obtain ⟨ys, hy, rfl⟩ := hv
  obtain ⟨vs, rfl, hz⟩ := h
  rw [← Reps.plains cs _ ys hz hy]
 | .bad, u, v, h, hv => by simp [D.plain] at hv
 | .tup _, u, v, h, hv => by simp [D.plain] at hv
 | .ptr _ _, u, v, h, hv => by simp [D.plain] at hv
 | .rop _, u, v, h, hv => by simp [D.plain] at hv
 | .msl _ _ _ _, u, v, h, hv => by simp [D.plain] at hv
 | .fn f [], u, v, h, hv => by
  simp only [D.plain, Option.some.injEq] at hv
  obtain ⟨vs, rfl, hz⟩ := h
  obtain ⟨l⟩ := vs
  cases l with
  | nil => exact hv
  | cons _ _ => first | cases hz | (simp [RepsA] at hz)
 | .fn _ (_ :: _), u, v, h, hv => by simp [D.plain] at hv
theorem Reps.plains {w : World} {M : Nat → Prop} {η : Et} : ∀ (cs : List D) (us vs : List Value), Reps w M η cs us → D.plains cs = some vs → us = vs
 | [], us, vs, h, hv => by simp only [D.plains, Option.some.injEq] at hv; rw [← hv]; exact h
 | c :: cs, us, vs, h, hv => by
  simp only [D.plains] at hv
  split at hv
  ·rename_i x xs h1 h2
   cases hv
   obtain ⟨u, us', rfl, _, h3, h4⟩ := h
   rw [Rep.plain c u x h3 h1, Reps.plains cs us' xs h4 h2]
  ·cases hv
end
section
variable {Γ : Gl} {P : Program} {o : Oper} {X : St}
theorem uL (hs : ∀ cs b, o.op ≠ .select cs b) (hρ : ∀ x ∈ o.op.operands.toList, ((ev X x).plain).isSome = true) (v : Value)
  (h : ∀ w, (execOp (fun x => ((ev X x).plain).getD undef) o).run P w = .ok (.value v) w) : xD Γ P o X { val := .t (.v v) } := by
 intro E Y a w η hA hS K Q hK
 have he : execOp a.eval o = execOp (fun x => ((ev X x).plain).getD undef) o := execOp_congr o hs (fun x hx => by
  have hx' : x ∈ o.op.operands.toList := by simpa using hx
  have h1 := hS.ev x
  rw [hA.2.1 x hx'] at h1
  obtain ⟨y, hy⟩ := Option.isSome_iff_exists.1 (hρ x hx')
  rw [hy]
  exact Rep.plain _ _ _ h1 hy)
 refine wR (v := v) (w' := w) (by rw [he]; exact h w) (hK _ _ η ?_)
 rw [wW]
 exact hS.put (by exact rfl) o.dst
theorem yAq {rx : Operand} {name : String} {args : Array Operand} {tys : Array TypeId} {ty : TypeId} {v v' : Value} {f : FuncId} {r : Rec} (h : o.op = .call { callee := .invoke rx name, args := args, argTypes := tys })
  (hx : (ev X rx).plain = some (.iface ty v)) (hm : ∀ w, (method (P.types.size + Made.depth) ty v name).run P w = .ok (f, v') w) (hk : yQ P f = true)
  (hspec : xD Γ P { o with op := .call { callee := .value (.func f), args := #[.const v'] ++ args, argTypes := tys } } X r) : xD Γ P o X r := by
 intro E Y a w η hA hS K Q hK
 have hrx : a.eval rx = .iface ty v := by
  have h1 := hS.ev rx
  rw [hA.2.1 rx (by rw [h]; simp [Op.operands, Call.operands])] at h1
  exact Rep.plain _ _ _ h1 hx
 have hA' : Agree X Y { o with op := .call { callee := .value (.func f), args := #[.const v'] ++ args, argTypes := tys } } r := by
  refine ⟨hA.1, fun x hx' => ?_, hA.2.2⟩
  simp [Op.operands, Call.operands] at hx'
  rcases hx' with rfl | rfl | hx'
  ·rfl
  ·rfl
  ·exact hA.2.1 x (by rw [h]; simp [Op.operands, Call.operands]; exact .inr hx')
 have h2 := hspec E Y a w η hA' hS K Q hK
 have e1 : (execOp a.eval o).run P w = .ok (.enter f (#[v'] ++ args.map a.eval)) w := by
  have hp : ((do pure (← program).types.size) : Sem Nat).run P w = .ok P.types.size w := rfl
  have h0 : (#[Value.iface ty v] ++ args.map a.eval)[0]? = some (.iface ty v) := by rw [Array.getElem?_append_left (by simp)]; rfl
  have h1 : (#[Value.iface ty v] ++ args.map a.eval).extract 1 (#[Value.iface ty v] ++ args.map a.eval).size = args.map a.eval := by
   apply Array.ext'
   simp
   exact List.take_of_length_le (by simp)
  simp only [execOp, h, resolve, Sem.run_bind, Sem.run_pure, Result.andThen_ok, invoke, hrx, h0, h1, callMethod]
  have hm' := hm w
  rw [Sem.run_bind] at *
  simp [hm', dC hk]
 have e2 : (execOp a.eval { o with op := .call { callee := .value (.func f), args := #[.const v'] ++ args, argTypes := tys } }).run P w = .ok (.enter f (#[v'] ++ args.map a.eval)) w := by
  simp only [execOp, resolve, Act.eval, Deferred.ofValue, Sem.run_bind, Sem.run_pure, Result.andThen_ok, invoke]
  simp [Act.eval, dC hk]
 unfold Oper.wp at h2 ⊢
 rw [e2] at h2
 rw [e1]
 exact h2
end
section
variable {Γ : Gl} {P : Program} {X : St} {ops ops' : Array Oper} {rid i : Nat} {o : Oper} {os : List Oper} {acc : List Meta} {Q : Exit → St → Prop} {K : St → List Meta → Prop} {draw : Bool}
theorem wQ (v : Value) {X' : St} {i' : Nat} (h : wpS Γ P ops rid i' os X' [] (wN ops' false Q)) (hg : o.guard = none := by rfl)
 (hs : wP P rid i X o = none := by (simp only [push_cast, reduceCtorEq, Nat.reduceAdd, Nat.reduceSub, Nat.reduceMul, Nat.reduceEqDiff, Nat.reduceLT, Nat.reduceLeDiff, Nat.reduceMod, Nat.reduceDiv, Int.reduceLE, Int.reduceLT, Int.reduceEq, Int.reduceToNat, Int.reduceAdd, Int.reduceSub, Int.reduceMul, Int.reduceNeg]))
 (hsel : ∀ cs b, o.op ≠ .select cs b := by (intro cs b h; cases h))
 (hr : o.op.operands.toList.all (fun x => ((ev X x).plain).isSome) = true := by kernel_rfl)
 (hv : ∀ w, (execOp (fun x => ((ev X x).plain).getD undef) o).run P w = .ok (.value v) w := by (intro w; kernel_rfl))
 (hX : X.app o.dst { val := .t (.v v) } = X' := by (simp only [push_cast, reduceCtorEq, Nat.reduceAdd, Nat.reduceEqDiff] <;> rfl))
 (hi : i + 1 = i' := by (simp only [Nat.reduceAdd] <;> rfl)) : wpS Γ P ops rid i (o :: os) X [] (wN ops' false Q) := lD hg hs (uL hsel (fun x hx => List.all_eq_true.1 hr x hx) v hv) (fun _ => rfl) hX hi h
theorem yAg {gi : Nat} {want : Bool} (v : Value) {X' : St} {i' : Nat} (h : wpS Γ P ops rid i' os X' [] (wN ops' false Q)) (hg : o.guard = some (gi, want) := by rfl)
 (hb : vO (vV ops X gi) want = some true := by (simp only [vV, Option.bind_some, push_cast, reduceCtorEq, Nat.reduceAdd, Nat.reduceSub, Nat.reduceMul, Nat.reduceEqDiff, Nat.reduceLT, Nat.reduceLeDiff, Nat.reduceMod, Nat.reduceDiv, Int.reduceLE, Int.reduceLT, Int.reduceEq, Int.reduceToNat, Int.reduceAdd, Int.reduceSub, Int.reduceMul, Int.reduceNeg] <;> rfl))
 (hs : wP P rid i X o = none := by (simp only [push_cast, reduceCtorEq, Nat.reduceAdd, Nat.reduceSub, Nat.reduceMul, Nat.reduceEqDiff, Nat.reduceLT, Nat.reduceLeDiff, Nat.reduceMod, Nat.reduceDiv, Int.reduceLE, Int.reduceLT, Int.reduceEq, Int.reduceToNat, Int.reduceAdd, Int.reduceSub, Int.reduceMul, Int.reduceNeg]))
 (hsel : ∀ cs b, o.op ≠ .select cs b := by (intro cs b h; cases h))
 (hr : o.op.operands.toList.all (fun x => ((ev X x).plain).isSome) = true := by kernel_rfl)
 (hv : ∀ w, (execOp (fun x => ((ev X x).plain).getD undef) o).run P w = .ok (.value v) w := by (intro w; kernel_rfl))
 (hX : X.app o.dst { val := .t (.v v) } = X' := by (simp only [push_cast, reduceCtorEq, Nat.reduceAdd, Nat.reduceEqDiff] <;> rfl))
 (hi : i + 1 = i' := by (simp only [Nat.reduceAdd] <;> rfl)) : wpS Γ P ops rid i (o :: os) X [] (wN ops' false Q) := qL hg hb hs (uL hsel (fun x hx => List.all_eq_true.1 hr x hx) v hv) (fun _ => rfl) hX hi h
theorem kZ {rx : Operand} {name : String} {args : Array Operand} {tys : Array TypeId} {ty : TypeId} {v v' : Value} {f : FuncId} {cargs : List D} {r : D} {ns : List Ob} {X' : St} {i' : Nat} (len : List Nm) (sh : Bool) (hG : Good Γ P f cargs [] r [] ns) (h : wpS Γ P ops rid i' os X' [] (wN ops' false Q)) (hx : (ev X rx).plain = some (.iface ty v)) (hm1 : ∀ w, (method (P.types.size + Made.depth) ty v name).run P w = .ok (f, v') w) (hg : o.guard = none := by rfl)
 (ho : o.op = .call { callee := .invoke rx name, args := args, argTypes := tys } := by rfl)
 (hs : wP P rid i X o = none := by (simp only [wP, sM]))
 (hk : yQ P f = true := by (simp only [push_cast]))
 (hv : VwL (fun _ => none) X.hp (· ∈ len) cargs ((#[Operand.const v'] ++ args).toList.map (ev X) ++ []) := by (first | ((try simp (disch := first | omega | (simp only [zL] <;> omega) | (simp only [push_cast] <;> omega) | fail) only [push_cast, reduceCtorEq, Nat.reduceAdd, Nat.reduceSub, Nat.reduceMul, Nat.reduceEqDiff, Nat.reduceLT, Nat.reduceLeDiff, Nat.reduceMod, Nat.reduceDiv, Int.reduceLE, Int.reduceLT, Int.reduceEq, Int.reduceToNat, Int.reduceAdd, Int.reduceSub, Int.reduceMul, Int.reduceNeg]); (repeat' (first | exact gO | exact yE7 | refine yE8 ?_ ?_ | refine Vw_a ?_)); done) | (simp [-List.map_map, -List.map_drop, -List.map_take, ev, evc, mkS, push_cast, List.take_of_length_le] <;> (try simp only [zL]) <;> (try omega))))
 (hlex : ∀ m ∈ len, X.hp m ≠ none := by (simp [Go.Ot.look]))
 (hnew : ∀ k, k < ns.length → X.hp (.r rid i k) = none := by (simp [Go.Ot.look]))
 (hsh : sh = false → r.flat = true ∧ (∀ ob ∈ ns, D.flatL ob.cells = true) := by (simp [-List.map_map, -List.map_drop, -List.map_take, D.flat, D.flatL, T.flat, T.flatL, flatL_map_t, push_cast]))
 (hX : X.app o.dst (vM X [] r [] ns rid i sh len []) = X' := by (simp only [push_cast, reduceCtorEq, Nat.reduceAdd, Nat.reduceEqDiff] <;> rfl))
 (hi : i + 1 = i' := by (simp only [Nat.reduceAdd] <;> rfl)) : wpS Γ P ops rid i (o :: os) X [] (wN ops' false Q) :=
 lD hg hs (yAq ho hx hm1 hk (sN (.func f) (#[Operand.const v'] ++ args) tys rfl rfl hk len hG hv hlex rid i hnew sh hsh)) (fun _ => rfl) hX hi h
end
section
variable {Γ : Gl} {P : Program} {X : St} {ops ops' : Array Oper} {rid i : Nat} {o : Oper} {os : List Oper} {acc : List Meta} {Q : Exit → St → Prop} {K : St → List Meta → Prop} {draw : Bool}
theorem yAr {x : Operand} {xT t : TypeId} {c : Bool} {u res : Value} (h : o.op = .typeAssert x xT t c) (hx : (ev X x).plain = some u) (hr : ∀ w, (Instr.typeAssert u xT t c).run P w = .ok res w) : xD Γ P o X { val := .t (.v res) } := by
 refine uL (by intro cs b e; rw [h] at e; cases e) (fun y hy => ?_) res (fun w => ?_)
 ·rw [h] at hy
  simp [Op.operands] at hy
  subst hy
  rw [hx]; rfl
 ·simp only [execOp, h, hx, Option.getD_some, Sem.run_bind, hr w, Result.andThen_ok, Sem.run_pure]
theorem yFD {op : BinOp} {t ty : TypeId} {x y : Operand} {u v res : Value} (h : o.op = .binOp op t x y ty) (hx : (ev X x).plain = some u) (hy : (ev X y).plain = some v) (hn : ¬ (u = .nilIface ∧ v = .nilIface)) (h2 : ∀ c d, u = .agg c → v = .agg d → False) (hr : ∀ w, (binOp op t u v).run P w = .ok res w) : xD Γ P o X { val := .t (.v res) } := by
 refine uL (by intro cs b e; rw [h] at e; cases e) (fun z hz => ?_) res (fun w => ?_)
 ·rw [h] at hz
  simp [Op.operands] at hz
  rcases hz with rfl | rfl
  ·rw [hx]; rfl
  ·rw [hy]; rfl
 ·simp only [execOp, h, hx, hy, Option.getD_some, Sem.run_bind, lE hn h2, hr w, Result.andThen_ok, Sem.run_pure]
theorem vW {x : Operand} {xT t : TypeId} {c : Bool} (u res : Value) {X' : St} {i' : Nat} (h : wpS Γ P ops rid i' os X' [] (wN ops' false Q)) (hr : ∀ w, (Instr.typeAssert u xT t c).run P w = .ok res w) (hg : o.guard = none := by rfl)
 (ho : o.op = .typeAssert x xT t c := by rfl)
 (hs : wP P rid i X o = none := by (simp only [push_cast, reduceCtorEq, Nat.reduceAdd, Nat.reduceSub, Nat.reduceMul, Nat.reduceEqDiff, Nat.reduceLT, Nat.reduceLeDiff, Nat.reduceMod, Nat.reduceDiv, Int.reduceLE, Int.reduceLT, Int.reduceEq, Int.reduceToNat, Int.reduceAdd, Int.reduceSub, Int.reduceMul, Int.reduceNeg]))
 (hx : (ev X x).plain = some u := by rfl)
 (hX : X.app o.dst { val := .t (.v res) } = X' := by (simp only [push_cast, reduceCtorEq, Nat.reduceAdd, Nat.reduceEqDiff] <;> rfl))
 (hi : i + 1 = i' := by (simp only [Nat.reduceAdd] <;> rfl)) : wpS Γ P ops rid i (o :: os) X [] (wN ops' false Q) := lD hg hs (yAr ho hx hr) (fun _ => rfl) hX hi h
theorem yE5 {gi : Nat} {want : Bool} {op : BinOp} {t ty : TypeId} {x y : Operand} {u v : Value} (res : Value) {X' : St} {i' : Nat} (h : wpS Γ P ops rid i' os X' [] (wN ops' false Q)) (hr : ∀ w, (binOp op t u v).run P w = .ok res w) (hg : o.guard = some (gi, want) := by rfl)
 (hb : vO (vV ops X gi) want = some true := by (simp only [vV, Option.bind_some, push_cast, reduceCtorEq, Nat.reduceAdd, Nat.reduceSub, Nat.reduceMul, Nat.reduceEqDiff, Nat.reduceLT, Nat.reduceLeDiff, Nat.reduceMod, Nat.reduceDiv, Int.reduceLE, Int.reduceLT, Int.reduceEq, Int.reduceToNat, Int.reduceAdd, Int.reduceSub, Int.reduceMul, Int.reduceNeg] <;> rfl))
 (ho : o.op = .binOp op t x y ty := by rfl)
 (hs : wP P rid i X o = none := by (simp only [push_cast, reduceCtorEq, Nat.reduceAdd, Nat.reduceSub, Nat.reduceMul, Nat.reduceEqDiff, Nat.reduceLT, Nat.reduceLeDiff, Nat.reduceMod, Nat.reduceDiv, Int.reduceLE, Int.reduceLT, Int.reduceEq, Int.reduceToNat, Int.reduceAdd, Int.reduceSub, Int.reduceMul, Int.reduceNeg]))
 (hx : (ev X x).plain = some u := by rfl)
 (hy : (ev X y).plain = some v := by rfl)
 (hn : ¬ (u = .nilIface ∧ v = .nilIface) := by (rintro ⟨h, _⟩; cases h))
 (h2 : ∀ c d, u = .agg c → v = .agg d → False := by (intro c d h; cases h))
 (hX : X.app o.dst { val := .t (.v res) } = X' := by (simp only [push_cast, reduceCtorEq, Nat.reduceAdd, Nat.reduceEqDiff] <;> rfl))
 (hi : i + 1 = i' := by (simp only [Nat.reduceAdd] <;> rfl)) : wpS Γ P ops rid i (o :: os) X [] (wN ops' false Q) := qL hg hb hs (yFD ho hx hy hn h2 hr) (fun _ => rfl) hX hi h
end
section
variable {Γ : Gl} {P : Program} {X : St} {ops ops' : Array Oper} {rid i : Nat} {o : Oper} {os : List Oper} {acc : List Meta} {Q : Exit → St → Prop} {K : St → List Meta → Prop} {draw : Bool}
theorem yFC {f : FuncId} {args : Array Operand} {tys : Array TypeId} (us : Array Value) {res : Value} (h : o.op = .call { callee := .value (.func f), args := args, argTypes := tys })
  (hp : args.toList.all (fun x => ((ev X x).plain).isSome) = true) (hu : args.map (fun x => ((ev X x).plain).getD undef) = us) (hr : ∀ w, (callFunc f us).run P w = .ok (.value res) w) : xD Γ P o X { val := .t (.v res) } := by
 have hf : (fun x => ((ev X x).plain).getD undef) (.func f) = .func (.func f) #[] #[] := rfl
 refine uL (by intro cs b e; rw [h] at e; cases e) (fun z hz => ?_) res (fun w => ?_)
 ·rw [h] at hz
  simp [Op.operands, Call.operands] at hz
  rcases hz with rfl | hz
  ·rfl
  ·exact List.all_eq_true.1 hp z (by simpa using hz)
 ·simp only [execOp, h, resolve, hf, hu, Deferred.ofValue, Sem.run_bind, Sem.run_pure, Result.andThen_ok, invoke]
  simp [hr]
theorem yDi {rx : Operand} {name : String} {tys : Array TypeId} {ty : TypeId} {v v' : Value} {f : FuncId} {res : Value} (h : o.op = .call { callee := .invoke rx name, args := #[], argTypes := tys })
  (hx : (ev X rx).plain = some (.iface ty v)) (hm : ∀ w, (method (P.types.size + Made.depth) ty v name).run P w = .ok (f, v') w) (hr : ∀ w, (callFunc f #[v']).run P w = .ok (.value res) w) : xD Γ P o X { val := .t (.v res) } := by
 refine uL (by intro cs b e; rw [h] at e; cases e) (fun z hz => ?_) res (fun w => ?_)
 ·rw [h] at hz
  simp [Op.operands, Call.operands] at hz
  rw [hz, hx]; rfl
 ·simp only [execOp, h, resolve, hx, Option.getD_some, Sem.run_bind, Sem.run_pure, Result.andThen_ok, invoke, callMethod]
  have hm' := hm w
  have hp : (do pure (← program) : Sem Program).run P w = .ok P w := rfl
  simp [hm', hr]
theorem yC1 {f : FuncId} {args : Array Operand} {tys : Array TypeId} (us : Array Value) (res : Value) {X' : St} {i' : Nat} (h : wpS Γ P ops rid i' os X' [] (wN ops' false Q)) (hr : ∀ w, (callFunc f us).run P w = .ok (.value res) w) (hg : o.guard = none := by rfl)
 (ho : o.op = .call { callee := .value (.func f), args := args, argTypes := tys } := by rfl)
 (hp : args.toList.all (fun x => ((ev X x).plain).isSome) = true := by kernel_rfl)
 (hu : args.map (fun x => ((ev X x).plain).getD undef) = us := by kernel_rfl)
 (hs : wP P rid i X o = none := by (first | (simp only [push_cast, reduceCtorEq, Nat.reduceAdd, Nat.reduceSub, Nat.reduceMul, Nat.reduceEqDiff, Nat.reduceLT, Nat.reduceLeDiff, Nat.reduceMod, Nat.reduceDiv, Int.reduceLE, Int.reduceLT, Int.reduceEq, Int.reduceToNat, Int.reduceAdd, Int.reduceSub, Int.reduceMul, Int.reduceNeg]) | (simp only [wP, sM])))
 (hX : X.app o.dst { val := .t (.v res) } = X' := by (simp only [push_cast, reduceCtorEq, Nat.reduceAdd, Nat.reduceEqDiff] <;> rfl))
 (hi : i + 1 = i' := by (simp only [Nat.reduceAdd] <;> rfl)) : wpS Γ P ops rid i (o :: os) X [] (wN ops' false Q) := lD hg hs (yFC us ho hp hu hr) (fun _ => rfl) hX hi h
theorem kH {rx : Operand} {name : String} {tys : Array TypeId} {ty : TypeId} {v v' : Value} {f : FuncId} (res : Value) {X' : St} {i' : Nat} (h : wpS Γ P ops rid i' os X' [] (wN ops' false Q)) (hm1 : ∀ w, (method (P.types.size + Made.depth) ty v name).run P w = .ok (f, v') w) (hr : ∀ w, (callFunc f #[v']).run P w = .ok (.value res) w) (hg : o.guard = none := by rfl)
 (ho : o.op = .call { callee := .invoke rx name, args := #[], argTypes := tys } := by rfl)
 (hx : (ev X rx).plain = some (.iface ty v) := by rfl)
 (hs : wP P rid i X o = none := by (first | (simp only [push_cast, reduceCtorEq, Nat.reduceAdd, Nat.reduceSub, Nat.reduceMul, Nat.reduceEqDiff, Nat.reduceLT, Nat.reduceLeDiff, Nat.reduceMod, Nat.reduceDiv, Int.reduceLE, Int.reduceLT, Int.reduceEq, Int.reduceToNat, Int.reduceAdd, Int.reduceSub, Int.reduceMul, Int.reduceNeg]) | (simp only [wP, sM])))
 (hX : X.app o.dst { val := .t (.v res) } = X' := by (simp only [push_cast, reduceCtorEq, Nat.reduceAdd, Nat.reduceEqDiff] <;> rfl))
 (hi : i + 1 = i' := by (simp only [Nat.reduceAdd] <;> rfl)) : wpS Γ P ops rid i (o :: os) X [] (wN ops' false Q) := lD hg hs (yDi ho hx hm1 hr) (fun _ => rfl) hX hi h
theorem vP {t u : TypeId} {x y : Operand} (neg : Bool) {X' : St} {i' : Nat} (h : wpS Γ P ops rid i' os X' [] (wN ops' false Q))  (hg : o.guard = none := by rfl)
 (ho : o.op = .binOp (if neg then .neq else .eql) t x y u := by rfl)
 (hx : ev X x = .t (.v .nilIface) := by rfl) (hy : y = .const .nilIface := by rfl) (ht : P.underlying t = some (.interface (P.methodsAt t)) := by (simp only [push_cast]))
 (hs : wP P rid i X o = none := by (first | (simp only [push_cast, reduceCtorEq, Nat.reduceAdd, Nat.reduceSub, Nat.reduceMul, Nat.reduceEqDiff, Nat.reduceLT, Nat.reduceLeDiff, Nat.reduceMod, Nat.reduceDiv, Int.reduceLE, Int.reduceLT, Int.reduceEq, Int.reduceToNat, Int.reduceAdd, Int.reduceSub, Int.reduceMul, Int.reduceNeg]) | (simp only [wP, sM])))
 (hX : X.app o.dst { val := .t (.v (.bool !neg)) } = X' := by (simp only [push_cast, reduceCtorEq, Nat.reduceAdd, Nat.reduceEqDiff] <;> rfl))
 (hi : i + 1 = i' := by (simp only [Nat.reduceAdd] <;> rfl)) : wpS Γ P ops rid i (o :: os) X [] (wN ops' false Q) := lD hg hs (jH t u x y neg ho hx hy ht) (fun _ => rfl) hX hi h
theorem yC0 {gi : Nat} {want : Bool} {t u : TypeId} {x y : Operand} (neg : Bool) {X' : St} {i' : Nat} (h : wpS Γ P ops rid i' os X' [] (wN ops' false Q))  (hg : o.guard = some (gi, want) := by rfl)
 (hb : vO (vV ops X gi) want = some true := by (simp only [vV, Option.bind_some, push_cast, reduceCtorEq, Nat.reduceAdd, Nat.reduceSub, Nat.reduceMul, Nat.reduceEqDiff, Nat.reduceLT, Nat.reduceLeDiff, Nat.reduceMod, Nat.reduceDiv, Int.reduceLE, Int.reduceLT, Int.reduceEq, Int.reduceToNat, Int.reduceAdd, Int.reduceSub, Int.reduceMul, Int.reduceNeg] <;> rfl))
 (ho : o.op = .binOp (if neg then .neq else .eql) t x y u := by rfl)
 (hx : ev X x = .t (.v .nilIface) := by rfl) (hy : y = .const .nilIface := by rfl) (ht : P.underlying t = some (.interface (P.methodsAt t)) := by (simp only [push_cast]))
 (hs : wP P rid i X o = none := by (first | (simp only [push_cast, reduceCtorEq, Nat.reduceAdd, Nat.reduceSub, Nat.reduceMul, Nat.reduceEqDiff, Nat.reduceLT, Nat.reduceLeDiff, Nat.reduceMod, Nat.reduceDiv, Int.reduceLE, Int.reduceLT, Int.reduceEq, Int.reduceToNat, Int.reduceAdd, Int.reduceSub, Int.reduceMul, Int.reduceNeg]) | (simp only [wP, sM])))
 (hX : X.app o.dst { val := .t (.v (.bool !neg)) } = X' := by (simp only [push_cast, reduceCtorEq, Nat.reduceAdd, Nat.reduceEqDiff] <;> rfl))
 (hi : i + 1 = i' := by (simp only [Nat.reduceAdd] <;> rfl)) : wpS Γ P ops rid i (o :: os) X [] (wN ops' false Q) := qL hg hb hs (jH t u x y neg ho hx hy ht) (fun _ => rfl) hX hi h
theorem tF {t u : TypeId} {x y : Operand} (neg : Bool) {X' : St} {i' : Nat} (h : wpS Γ P ops rid i' os X' [] (wN ops' false Q))  (hg : o.guard = none := by rfl)
 (ho : o.op = .binOp (if neg then .neq else .eql) t x y u := by rfl)
 (hx : (∃ q z, ev X x = .t (.ifc q z)) ∨ ∃ q z, ev X x = .ifc q z := by first | exact .inl ⟨_, _, rfl⟩ | exact .inr ⟨_, _, rfl⟩) (hy : y = .const .nilIface := by rfl) (ht : P.underlying t = some (.interface (P.methodsAt t)) := by (simp only [push_cast]))
 (hs : wP P rid i X o = none := by (first | (simp only [push_cast, reduceCtorEq, Nat.reduceAdd, Nat.reduceSub, Nat.reduceMul, Nat.reduceEqDiff, Nat.reduceLT, Nat.reduceLeDiff, Nat.reduceMod, Nat.reduceDiv, Int.reduceLE, Int.reduceLT, Int.reduceEq, Int.reduceToNat, Int.reduceAdd, Int.reduceSub, Int.reduceMul, Int.reduceNeg]) | (simp only [wP, sM])))
 (hX : X.app o.dst { val := .t (.v (.bool neg)) } = X' := by (simp only [push_cast, reduceCtorEq, Nat.reduceAdd, Nat.reduceEqDiff] <;> rfl))
 (hi : i + 1 = i' := by (simp only [Nat.reduceAdd] <;> rfl)) : wpS Γ P ops rid i (o :: os) X [] (wN ops' false Q) := lD hg hs (fM t u x y neg ho hx hy ht) (fun _ => rfl) hX hi h
theorem gN {gi : Nat} {want : Bool} {t u : TypeId} {x y : Operand} (neg : Bool) {X' : St} {i' : Nat} (h : wpS Γ P ops rid i' os X' [] (wN ops' false Q))  (hg : o.guard = some (gi, want) := by rfl)
 (hb : vO (vV ops X gi) want = some true := by (simp only [vV, Option.bind_some, push_cast, reduceCtorEq, Nat.reduceAdd, Nat.reduceSub, Nat.reduceMul, Nat.reduceEqDiff, Nat.reduceLT, Nat.reduceLeDiff, Nat.reduceMod, Nat.reduceDiv, Int.reduceLE, Int.reduceLT, Int.reduceEq, Int.reduceToNat, Int.reduceAdd, Int.reduceSub, Int.reduceMul, Int.reduceNeg] <;> rfl))
 (ho : o.op = .binOp (if neg then .neq else .eql) t x y u := by rfl)
 (hx : (∃ q z, ev X x = .t (.ifc q z)) ∨ ∃ q z, ev X x = .ifc q z := by first | exact .inl ⟨_, _, rfl⟩ | exact .inr ⟨_, _, rfl⟩) (hy : y = .const .nilIface := by rfl) (ht : P.underlying t = some (.interface (P.methodsAt t)) := by (simp only [push_cast]))
 (hs : wP P rid i X o = none := by (first | (simp only [push_cast, reduceCtorEq, Nat.reduceAdd, Nat.reduceSub, Nat.reduceMul, Nat.reduceEqDiff, Nat.reduceLT, Nat.reduceLeDiff, Nat.reduceMod, Nat.reduceDiv, Int.reduceLE, Int.reduceLT, Int.reduceEq, Int.reduceToNat, Int.reduceAdd, Int.reduceSub, Int.reduceMul, Int.reduceNeg]) | (simp only [wP, sM])))
 (hX : X.app o.dst { val := .t (.v (.bool neg)) } = X' := by (simp only [push_cast, reduceCtorEq, Nat.reduceAdd, Nat.reduceEqDiff] <;> rfl))
 (hi : i + 1 = i' := by (simp only [Nat.reduceAdd] <;> rfl)) : wpS Γ P ops rid i (o :: os) X [] (wN ops' false Q) := qL hg hb hs (fM t u x y neg ho hx hy ht) (fun _ => rfl) hX hi h
end
end Go.Ot

namespace Go.Ot
section
variable {Γ : Gl} {P : Program} {o : Oper} {X : St}
end
def ObsAt (src : Nm → Option Nm) (len : Nm → Prop) (hp : Nm → Option Ob) : List Nm → List Ob → Prop
 | m :: ms, o' :: ps => (∃ ob, hp m = some ob ∧ o'.ty = ob.ty ∧ rowOk m o' ob ∧ (o'.own = true → ob.own = true) ∧ VwL src hp len o'.cells ob.cells) ∧ ObsAt src len hp ms ps
 | [], [] => True
 | _, _ => False
theorem ObsAt.len {src : Nm → Option Nm} {len : Nm → Prop} {hp : Nm → Option Ob} : ∀ {nms : List Nm} {ps : List Ob}, ObsAt src len hp nms ps → nms.length = ps.length
 | [], [], _ => rfl
 | [], _ :: _, h => h.elim
 | _ :: _, [], h => h.elim
 | _ :: ms, _ :: ps, h => by simp [ObsAt.len h.2]
theorem ObsAt.get {src : Nm → Option Nm} {len : Nm → Prop} {hp : Nm → Option Ob} : ∀ {nms : List Nm} {ps : List Ob}, ObsAt src len hp nms ps → ∀ {k : Nat} {o' : Ob}, ps[k]? = some o' → ∃ m ob, nms[k]? = some m ∧ hp m = some ob ∧ o'.ty = ob.ty ∧ rowOk m o' ob ∧ (o'.own = true → ob.own = true) ∧ VwL src hp len o'.cells ob.cells
 | [], [], _, k, o', h => by simp at h
 | [], _ :: _, h, _, _, _ => h.elim
 | _ :: _, [], h, _, _, _ => h.elim
 | m :: ms, o1 :: ps, h, 0, o', h1 => by
  simp at h1
  subst h1
  obtain ⟨ob, h2⟩ := h.1
  exact ⟨m, ob, rfl, h2⟩
 | m :: ms, o1 :: ps, h, k + 1, o', h1 => by
  simpa using ObsAt.get h.2 (k := k) (by simpa using h1)
theorem yJH {nms len : List Nm} {hp : Nm → Option Ob} {ps : List Ob} (h : ObsAt (vC nms) (· ∈ len) hp nms ps) (hnd : nms.Nodup) (hd : ∀ m ∈ len, m ∉ nms) : HpVw (vC nms) (· ∈ len) hp (nH ps) where
 objs := by
  intro m o' hm
  cases m with
  | p k =>
   obtain ⟨m0, ob, h1, h2⟩ := h.get (k := k) hm
   exact .inr ⟨m0, ob, h1, h2⟩
  | _ => simp [nH] at hm
 dom := by
  intro m m0 hm
  cases m with
  | p k =>
   have hk : k < nms.length := (List.getElem?_eq_some_iff.1 hm).1
   rw [h.len] at hk
   simp [nH, List.getElem?_eq_getElem hk]
  | _ => simp [vC] at hm
 inj := by
  intro m m' m0 h1 h2
  cases m with
  | p k =>
   cases m' with
   | p k' =>
    have hk : k < nms.length := (List.getElem?_eq_some_iff.1 h1).1
    have := (List.getElem?_inj hk hnd).1 (h1.trans h2.symm)
    rw [this]
   | _ => simp [vC] at h2
  | _ => simp [vC] at h1
 lent := by
  intro m m0 ob' h1 h2 h3
  cases m with
  | p k => exact absurd (List.mem_of_getElem? h1) (hd m0 h2)
  | _ => simp [vC] at h1
def PoiOk (poi : List Nm) : List Nm → List Ob → List (Option Ob) → Prop
 | m :: ms, o1 :: ps, o2 :: ps' => (m ∈ poi ∨ (o1.row = false ∧ ∃ o', o2 = some o' ∧ o'.row = false)) ∧ (∀ o', o2 = some o' → o'.row = false → o1.row = false) ∧ PoiOk poi ms ps ps'
 | [], [], [] => True
 | _, _, _ => False
theorem PoiOk.get {poi : List Nm} : ∀ {nms : List Nm} {ps : List Ob} {ps' : List (Option Ob)}, PoiOk poi nms ps ps' → ps'.length = ps.length ∧ (∀ (k : Nat) m, nms[k]? = some m → m ∉ poi → (∃ ob, ps[k]? = some ob ∧ ob.row = false) ∧ ∃ ob', ps'[k]? = some (some ob') ∧ ob'.row = false) ∧ ∀ (k : Nat) ob1, ps'[k]? = some (some ob1) → ob1.row = false → ∃ ob, ps[k]? = some ob ∧ ob.row = false
 | [], [], [], _ => ⟨rfl, by simp, by simp⟩
 | m :: ms, o1 :: ps, o2 :: ps', h => by
  obtain ⟨i1, i2, i3⟩ := PoiOk.get h.2.2
  refine ⟨by simp [i1], fun k m' h1 h2 => ?_, fun k ob1 h1 h2 => ?_⟩
  ·cases k with
   | zero =>
    simp at h1
    subst h1
    rcases h.1 with h3 | ⟨h3, o', rfl, h4⟩
    ·exact absurd h3 h2
    ·exact ⟨⟨o1, rfl, h3⟩, o', rfl, h4⟩
   | succ k => simpa using i2 k m' (by simpa using h1) h2
  ·cases k with
   | zero =>
    simp at h1
    exact ⟨o1, rfl, h.2.1 ob1 h1 h2⟩
   | succ k => simpa using i3 k ob1 (by simpa using h1) h2
 | [], [], _ :: _, h => h.elim
 | [], _ :: _, [], h => h.elim
 | [], _ :: _, _ :: _, h => h.elim
 | _ :: _, [], [], h => h.elim
 | _ :: _, [], _ :: _, h => h.elim
 | _ :: _, _ :: _, [], h => h.elim
section
variable {Γ : Gl} {P : Program} {X : St} {ops ops' : Array Oper} {rid i : Nat} {o : Oper} {os : List Oper} {acc : List Meta} {Q : Exit → St → Prop} {K : St → List Meta → Prop} {draw : Bool}
theorem pW {g : Operand} {args : Array Operand} {tys : Array TypeId} (h : o.op = .call { callee := .value g, args := args, argTypes := tys }) {f : FuncId} {caps : List D} (hg : ev X g = .fn f caps) (hc : yQ P f = true)
  (nms len poi : List Nm) {cargs : List D} {ps : List Ob} {r : D} {ps' : List (Option Ob)} {ns : List Ob} (hG : Good Γ P f cargs ps r ps' ns)
  (hv : VwL (vC nms) X.hp (· ∈ len) cargs (args.toList.map (ev X) ++ caps)) (hobs : ObsAt (vC nms) (· ∈ len) X.hp nms ps) (hnd : nms.Nodup) (hdis : ∀ m ∈ len, m ∉ nms) (hlex : ∀ m ∈ len, X.hp m ≠ none)
  (hpoi : PoiOk poi nms ps ps') (rid i : Nat) (hnew : ∀ k, k < ns.length → X.hp (.r rid i k) = none) (sh : Bool)
  (hsh : sh = false → r.flat = true ∧ (∀ ob ∈ ns, D.flatL ob.cells = true) ∧ ∀ ob, some ob ∈ ps' → D.flatL ob.cells = true)
  (hlp : sh = true → ∀ m ∈ len, ∀ ob, X.hp m = some ob → ∀ p ∈ poi, D.hasL p ob.cells = false) : xD Γ P o X (vM X nms r ps' ns rid i sh len poi) :=
 bE g args tys h hg hc nms len hG hv (yJH hobs hnd hdis) hobs.len hpoi.get.1 (fun m hm => by
  obtain ⟨k, hk, rfl⟩ := List.mem_iff_getElem.1 hm
  obtain ⟨o', ho'⟩ : ∃ o', ps[k]? = some o' := ⟨_, List.getElem?_eq_getElem (by rw [← hobs.len]; exact hk)⟩
  obtain ⟨m0, ob, h1, h2, _⟩ := hobs.get ho'
  rw [List.getElem?_eq_getElem hk] at h1
  cases h1
  rw [h2]; simp) rid i hnew sh hsh poi hpoi.get.2.1 hdis hlex hlp hpoi.get.2.2
theorem yAh {r : Rec} {X' : St} {i' : Nat} (hsp : xD Γ P o X r) (h : wpS Γ P ops rid i' os X' [] (wN ops' false Q)) (hg : o.guard = none := by rfl)
 (hs : wP P rid i X o = none := by (first | (simp only [push_cast, reduceCtorEq, Nat.reduceAdd, Nat.reduceSub, Nat.reduceMul, Nat.reduceEqDiff, Nat.reduceLT, Nat.reduceLeDiff, Nat.reduceMod, Nat.reduceDiv, Int.reduceLE, Int.reduceLT, Int.reduceEq, Int.reduceToNat, Int.reduceAdd, Int.reduceSub, Int.reduceMul, Int.reduceNeg]) | (simp only [wP, sM])))
 (ht : Tidy r := by first | exact (fun _ => rfl) | exact (fun h => by cases h))
 (hX : X.app o.dst r = X' := by (simp only [push_cast, reduceCtorEq, Nat.reduceAdd, Nat.reduceEqDiff] <;> rfl))
 (hi : i + 1 = i' := by (simp only [Nat.reduceAdd] <;> rfl)) : wpS Γ P ops rid i (o :: os) X [] (wN ops' false Q) := lD hg hs hsp ht hX hi h
theorem wG {g : Operand} {args : Array Operand} {tys : Array TypeId} {f : FuncId} {caps cargs : List D} {r : D} {ps : List Ob} {ps' : List (Option Ob)} {ns : List Ob} {X' : St} {i' : Nat} (nms len poi : List Nm) (sh : Bool) (hG : Good Γ P f cargs ps r ps' ns) (h : wpS Γ P ops rid i' os X' [] (wN ops' false Q)) (hg : o.guard = none := by rfl)
 (ho : o.op = .call { callee := .value g, args := args, argTypes := tys } := by rfl)
 (hs : wP P rid i X o = none := by (simp only [wP, sM]))
 (hf : ev X g = .fn f caps := by (simp only [push_cast, reduceCtorEq, Nat.reduceAdd, Nat.reduceSub, Nat.reduceMul, Nat.reduceEqDiff, Nat.reduceLT, Nat.reduceLeDiff, Nat.reduceMod, Nat.reduceDiv, Int.reduceLE, Int.reduceLT, Int.reduceEq, Int.reduceToNat, Int.reduceAdd, Int.reduceSub, Int.reduceMul, Int.reduceNeg] <;> rfl))
 (hk : yQ P f = true := by (simp only [push_cast]))
 (hv : VwL (vC nms) X.hp (· ∈ len) cargs (args.toList.map (ev X) ++ caps) := by (simp [-List.map_map, -List.map_drop, -List.map_take, VwL_cons, xM, xY, vN, xV, xW, xU, Vw_agg, xS, xX, xA, VwL_refl_map, yX, xK, xL, wK, xJ, yW, xC, yV, VwTs_app, List.take_of_length_le, srcL, notIn, ObsVw, SrcOk, pOk, Go.Ot.look, resP, resN, ev, evc, mkS, push_cast, vC, ObsAt, PoiOk]))
 (hobs : ObsAt (vC nms) (· ∈ len) X.hp nms ps := by (simp [-List.map_map, -List.map_drop, -List.map_take, VwL_cons, xM, xY, vN, xV, xW, xU, Vw_agg, xS, xX, xA, VwL_refl_map, yX, xK, xL, wK, xJ, yW, xC, yV, VwTs_app, List.take_of_length_le, srcL, notIn, ObsVw, SrcOk, pOk, Go.Ot.look, resP, resN, ev, evc, mkS, push_cast, vC, ObsAt, PoiOk]))
 (hnd : nms.Nodup := by (simp [-List.map_map, -List.map_drop, -List.map_take, VwL_cons, xM, xY, vN, xV, xW, xU, Vw_agg, xS, xX, xA, VwL_refl_map, yX, xK, xL, wK, xJ, yW, xC, yV, VwTs_app, List.take_of_length_le, srcL, notIn, ObsVw, SrcOk, pOk, Go.Ot.look, resP, resN, ev, evc, mkS, push_cast, vC, ObsAt, PoiOk]))
 (hdis : ∀ m ∈ len, m ∉ nms := by (simp))
 (hlex : ∀ m ∈ len, X.hp m ≠ none := by (simp [Go.Ot.look]))
 (hpoi : PoiOk poi nms ps ps' := by (simp [-List.map_map, -List.map_drop, -List.map_take, VwL_cons, xM, xY, vN, xV, xW, xU, Vw_agg, xS, xX, xA, VwL_refl_map, yX, xK, xL, wK, xJ, yW, xC, yV, VwTs_app, List.take_of_length_le, srcL, notIn, ObsVw, SrcOk, pOk, Go.Ot.look, resP, resN, ev, evc, mkS, push_cast, vC, ObsAt, PoiOk]))
 (hnew : ∀ k, k < ns.length → X.hp (.r rid i k) = none := by (simp [Go.Ot.look]))
 (hsh : sh = false → r.flat = true ∧ (∀ ob ∈ ns, D.flatL ob.cells = true) ∧ ∀ ob, some ob ∈ ps' → D.flatL ob.cells = true := by (simp [-List.map_map, -List.map_drop, -List.map_take, D.flat, D.flatL, T.flat, T.flatL, flatL_map_t, push_cast]))
 (hlp : sh = true → ∀ m ∈ len, ∀ ob, X.hp m = some ob → ∀ p ∈ poi, D.hasL p ob.cells = false := by (simp [Go.Ot.look, D.hasL, D.has, push_cast]))
 (ht : Tidy (vM X nms r ps' ns rid i sh len poi) := by first | exact (fun _ => rfl) | exact (fun h => by cases h))
 (hX : X.app o.dst (vM X nms r ps' ns rid i sh len poi) = X' := by (simp only [push_cast, reduceCtorEq, Nat.reduceAdd, Nat.reduceEqDiff] <;> rfl))
 (hi : i + 1 = i' := by (simp only [Nat.reduceAdd] <;> rfl)) : wpS Γ P ops rid i (o :: os) X [] (wN ops' false Q) := lD hg hs (pW ho hf hk nms len poi hG hv hobs hnd hdis hlex hpoi rid i hnew sh hsh hlp) ht hX hi h
theorem yG8 {g : Operand} {args : Array Operand} {tys : Array TypeId} {f : FuncId} {caps cargs : List D} {r : D} {ps : List Ob} {ps' : List (Option Ob)} {ns : List Ob} {X' : St} {ms : Meta} {i' : Nat} (nms len poi : List Nm) (sh : Bool) (hG : Good Γ P f cargs ps r ps' ns) (h : wpS Γ P ops rid i' os X' (acc ++ [ms]) (wN ops' draw Q)) (hg : o.guard = none := by rfl)
 (ho : o.op = .call { callee := .value g, args := args, argTypes := tys } := by rfl)
 (hs : wP P rid i X o = none := by (simp only [wP, sM]))
 (hf : ev X g = .fn f caps := by (simp only [push_cast, reduceCtorEq, Nat.reduceAdd, Nat.reduceSub, Nat.reduceMul, Nat.reduceEqDiff, Nat.reduceLT, Nat.reduceLeDiff, Nat.reduceMod, Nat.reduceDiv, Int.reduceLE, Int.reduceLT, Int.reduceEq, Int.reduceToNat, Int.reduceAdd, Int.reduceSub, Int.reduceMul, Int.reduceNeg] <;> rfl))
 (hk : yQ P f = true := by (simp only [push_cast]))
 (hv : VwL (vC nms) X.hp (· ∈ len) cargs (args.toList.map (ev X) ++ caps) := by (simp [-List.map_map, -List.map_drop, -List.map_take, VwL_cons, xM, xY, vN, xV, xW, xU, Vw_agg, xS, xX, xA, VwL_refl_map, yX, xK, xL, wK, xJ, yW, xC, yV, VwTs_app, List.take_of_length_le, srcL, notIn, ObsVw, SrcOk, pOk, Go.Ot.look, resP, resN, ev, evc, mkS, push_cast, vC, ObsAt, PoiOk]))
 (hobs : ObsAt (vC nms) (· ∈ len) X.hp nms ps := by (simp [-List.map_map, -List.map_drop, -List.map_take, VwL_cons, xM, xY, vN, xV, xW, xU, Vw_agg, xS, xX, xA, VwL_refl_map, yX, xK, xL, wK, xJ, yW, xC, yV, VwTs_app, List.take_of_length_le, srcL, notIn, ObsVw, SrcOk, pOk, Go.Ot.look, resP, resN, ev, evc, mkS, push_cast, vC, ObsAt, PoiOk]))
 (hnd : nms.Nodup := by (simp [-List.map_map, -List.map_drop, -List.map_take, VwL_cons, xM, xY, vN, xV, xW, xU, Vw_agg, xS, xX, xA, VwL_refl_map, yX, xK, xL, wK, xJ, yW, xC, yV, VwTs_app, List.take_of_length_le, srcL, notIn, ObsVw, SrcOk, pOk, Go.Ot.look, resP, resN, ev, evc, mkS, push_cast, vC, ObsAt, PoiOk]))
 (hdis : ∀ m ∈ len, m ∉ nms := by (simp))
 (hlex : ∀ m ∈ len, X.hp m ≠ none := by (simp [Go.Ot.look]))
 (hpoi : PoiOk poi nms ps ps' := by (simp [-List.map_map, -List.map_drop, -List.map_take, VwL_cons, xM, xY, vN, xV, xW, xU, Vw_agg, xS, xX, xA, VwL_refl_map, yX, xK, xL, wK, xJ, yW, xC, yV, VwTs_app, List.take_of_length_le, srcL, notIn, ObsVw, SrcOk, pOk, Go.Ot.look, resP, resN, ev, evc, mkS, push_cast, vC, ObsAt, PoiOk]))
 (hnew : ∀ k, k < ns.length → X.hp (.r rid i k) = none := by (simp [Go.Ot.look]))
 (hsh : sh = false → r.flat = true ∧ (∀ ob ∈ ns, D.flatL ob.cells = true) ∧ ∀ ob, some ob ∈ ps' → D.flatL ob.cells = true := by (simp [-List.map_map, -List.map_drop, -List.map_take, D.flat, D.flatL, T.flat, T.flatL, flatL_map_t, push_cast]))
 (hlp : sh = true → ∀ m ∈ len, ∀ ob, X.hp m = some ob → ∀ p ∈ poi, D.hasL p ob.cells = false := by (simp [Go.Ot.look, D.hasL, D.has, push_cast]))
 (ht : Tidy (vM X nms r ps' ns rid i sh len poi) := by first | exact (fun _ => rfl) | exact (fun h => by cases h))
 (hX : X.app o.dst (vM X nms r ps' ns rid i sh len poi) = X' := by (simp only [push_cast, reduceCtorEq, Nat.reduceAdd, Nat.reduceEqDiff] <;> rfl))
 (hm : (vM X nms r ps' ns rid i sh len poi).info = ms := by (simp only [Rec.info, push_cast, reduceCtorEq, Nat.reduceAdd, Nat.reduceEqDiff] <;> rfl))
 (hi : i + 1 = i' := by (simp only [Nat.reduceAdd] <;> rfl)) : wpS Γ P ops rid i (o :: os) X acc (wN ops' draw Q) := s_by hg hs (pW ho hf hk nms len poi hG hv hobs hnd hdis hlex hpoi rid i hnew sh hsh hlp) ht hX hm hi h
end
theorem aV (a b : List D) : D.flatL (a ++ b) = (D.flatL a && D.flatL b) := by
 induction a with
 | nil => simp [D.flatL]
 | cons x a ih => simp [D.flatL, ih, Bool.and_assoc]
theorem yAD (ρ : Nm → Nm) (a b : List D) : D.renL ρ (a ++ b) = D.renL ρ a ++ D.renL ρ b := by
 induction a with
 | nil => simp [D.renL]
 | cons x a ih => simp [D.renL, ih]
attribute [push_cast] aV yAD
end Go.Ot

namespace Go.Ot
section
variable {Γ : Gl} {P : Program} {o : Oper} {X : St}
theorem pF (t : TypeId) (g : Nat) (h : o.op = .load t (.global g)) {v : Value} (hG : ∀ w, Γ.G w → w.cell? ⟨g, 0, none⟩ = some v) (hg : g < Γ.gs) (h1 : (P.underlying t).isSome = true) (h2 : (P.info? t).isSome = true) (hc : P.cellsOf t = 1) (ha : xP P t = false) :
  xD Γ P o X { val := .t (.v v) } := by
 intro E Y a w η hA hS K Q hK
 have he : a.eval (.global g) = .pointer (some ⟨g, 0, none⟩) := rfl
 have hb : w.heap[g]? = E.w0.heap[g]? := hS.keep g (by have := hS.gle; omega) (fun hM => by have := hS.gM g hM; omega)
 have hcell : w.cell? ⟨g, 0, none⟩ = some v := (World.cell?_of_block (a := ⟨g, 0, none⟩) hb).trans (hG _ hS.glob)
 obtain ⟨u, hu0, hrun⟩ := vJ (P := P) (w := w) ⟨g, 0, none⟩ [v] h1 h2 (by simp [hc]) (fun _ => hc) (by
  intro j u hj
  cases j with
  | zero => simp at hj; subst hj; exact hcell
  | succ j => simp at hj)
 have hu := hu0 ha
 simp at hu
 subst hu
 rw [ha] at hrun
 refine wR (v := v) (w' := w) (by simp [execOp, h, he, Instr.loadAt, Instr.sureAddr, hrun]) (hK _ _ η ?_)
 rw [wW]
 exact hS.put (by exact rfl) o.dst
theorem bD {f : FuncId} {x : Operand} {tys : Array TypeId} (h : o.op = .call { callee := .value (.func f), args := #[x], argTypes := tys }) {r : D}
  (hr : ∀ w M η v, Rep w M η (ev X x) v → ∃ u, (callFunc f #[v]).run P w = .ok (.value u) w ∧ Rep w M η r u) : xD Γ P o X { val := r } := by
 intro E Y a w η hA hS K Q hK
 have hx := hS.ev x
 rw [hA.2.1 x (by simp [h, Op.operands, Call.operands])] at hx
 obtain ⟨u, hu, hru⟩ := hr _ _ _ _ hx
 refine wR (v := u) (w' := w) ?_ (hK _ _ η ?_)
 ·have hf : a.eval (.func f) = .func (.func f) #[] #[] := rfl
  simp only [execOp, h, resolve, hf, Deferred.ofValue, Sem.run_bind, Sem.run_pure, Result.andThen_ok, invoke]
  simp [hu]
 ·rw [wW]
  exact hS.put hru o.dst
theorem pV {f : FuncId} {x : Operand} {tys : Array TypeId} (h : o.op = .call { callee := .value (.func f), args := #[x], argTypes := tys }) {r d0 : D} {m : Nm} {ob : Ob} (hm : X.hp m = some ob) (h0 : ob.cells = [d0])
  (hr : ∀ w M η v b s u0, Rep w M η (ev X x) v → η m = some (b, s) → w.cell? ⟨b, 0, none⟩ = some u0 → Rep w M η d0 u0 → ∃ u, (callFunc f #[v]).run P w = .ok (.value u) w ∧ Rep w M η r u) : xD Γ P o X { val := r, F := [m] } := by
 intro E Y a w η hA hS K Q hK
 have hx := hS.ev x
 rw [hA.2.1 x (by simp [h, Op.operands, Call.operands])] at hx
 have hm' : Y.hp m = some ob := (hA.2.2 m (by simp)).trans hm
 obtain ⟨b, s, hη⟩ : ∃ b s, η m = some (b, s) := by
  have := hS.ok.objs m ob hm'
  unfold ObRep at this
  split at this
  ·rw [h0] at this; cases this.2
  ·rename_i b s e; exact ⟨b, s, e⟩
 obtain ⟨cur, fr, hb⟩ := hS.block hm' hη
 obtain ⟨u0, hu0, _, hR0⟩ := hb.reps.get (j := 0) (d := d0) (by rw [h0]; rfl)
 have hcell : w.cell? ⟨b, 0, none⟩ = some u0 := by
  rw [cell_of_row w b 0 cur ob.ty fr hb.heap]
  rw [List.getElem?_take] at hu0
  split at hu0
  ·simpa using hu0
  ·cases hu0
 obtain ⟨u, hu, hru⟩ := hr _ _ _ _ b s u0 hx hη hcell hR0
 refine wR (v := u) (w' := w) ?_ (hK _ _ η ?_)
 ·have hf : a.eval (.func f) = .func (.func f) #[] #[] := rfl
  simp only [execOp, h, resolve, hf, Deferred.ofValue, Sem.run_bind, Sem.run_pure, Result.andThen_ok, invoke]
  simp [hu]
 ·rw [wW]
  exact hS.put hru o.dst
theorem sE {f : FuncId} {x : Operand} {tys : Array TypeId} (h : o.op = .call { callee := .value (.func f), args := #[x], argTypes := tys }) {ty : TypeId} {c : D} {H F : Value} (rid i k : Nat) (hm : X.hp (.r rid i k) = none) (hH : H.oneCell' = true) (hF : F.oneCell' = true)
  (hr : ∀ w M η v, Rep w M η (ev X x) v → ∃ u, Rep w M η c u ∧ u.oneCell' = true ∧ (callFunc f #[v]).run P w = .ok (.value (.agg #[H, .pointer (some ⟨w.heap.size, 0, none⟩), F])) (w.alloc (.cells #[u] ty))) :
  xD Γ P o X { val := .agg [.t (.v H), .ptr (.r rid i k) 0, .t (.v F)], F := [.r rid i k], upd := [(.r rid i k, some ⟨[c], ty, false, true⟩)] } := by
 intro E Y a w η hA hS K Q hK
 have hx := hS.ev x
 rw [hA.2.1 x (by simp [h, Op.operands, Call.operands])] at hx
 have hm' : Y.hp (.r rid i k) = none := (hA.2.2 _ (by simp)).trans hm
 obtain ⟨u, hu, hu1, hrun⟩ := hr _ _ _ _ hx
 refine wR (v := .agg #[H, .pointer (some ⟨w.heap.size, 0, none⟩), F]) (w' := w.alloc (.cells #[u] ty)) ?_ (hK _ _ (fH η (.r rid i k) (some (w.heap.size, 1))) ?_)
 ·have hf : a.eval (.func f) = .func (.func f) #[] #[] := rfl
  simp only [execOp, h, resolve, hf, Deferred.ofValue, Sem.run_bind, Sem.run_pure, Result.andThen_ok, invoke]
  simp [hrun]
 rw [uN]
 refine Sim.put (X := { Y with hp := upd Y.hp _ _ }) (hS.new hm' (hS.not_par rid i k) ⟨[c], ty, false, true⟩ #[u] (0, 0) (by intro j _ ⟨_, h2⟩; omega) rfl (by simp) (by intro _; rfl) ⟨u, [], rfl, hu1, hu, rfl⟩) (d := .agg [.t (.v H), .ptr _ 0, .t (.v F)]) ?_ o.dst
 refine ⟨_, rfl, ?_⟩
 exact ⟨_, _, rfl, hH, rfl, _, _, rfl, rfl, ⟨w.heap.size, 1, by simp, rfl⟩, _, _, rfl, hF, rfl, rfl⟩
theorem pE {f : FuncId} {x y : Operand} {tys : Array TypeId} (h : o.op = .call { callee := .value (.func f), args := #[x, y], argTypes := tys }) {H1 F1 H2 F2 : Value} {m m2 : Nm} {off : Nat} {c : D} {ob ob2 : Ob} {t : TypeId} (mk : Value → Value)
  (hx : ev X x = .agg [.t (.v H1), .ptr m off, .t (.v F1)]) (hy : ev X y = .agg [.t (.v H2), .ptr m2 0, .t (.v F2)]) (hm : X.hp m = some ob) (ho : ob.own = true) (hm2 : X.hp m2 = some ob2) (h2 : ob2.cells = [c]) (hoff : off < ob.cells.length)
  (ht : (P.info? t).isSome = true) (hct : P.cellsOf t = 1) (hmk : ∀ u : Value, u.oneCell' = true → (mk u).cells = #[u])
  (hr : ∀ w a b u, w.cell? b = some u → u.oneCell' = true → (callFunc f #[.agg #[H1, .pointer (some a), F1], .agg #[H2, .pointer (some b), F2]]).run P w = (do storeVar t a (mk u); pure (.value (.tuple #[])) : Sem Next).run P w) :
  xD Γ P o X { val := .tup [], F := [m, m2], upd := [(m, some { ob with cells := setAt ob.cells off [c] })] } := by
 intro E Y a w η hA hS K Q hK
 have hx' := hS.ev x
 rw [hA.2.1 x (by simp [h, Op.operands, Call.operands]), hx] at hx'
 have hy' := hS.ev y
 rw [hA.2.1 y (by simp [h, Op.operands, Call.operands]), hy] at hy'
 have hm' : Y.hp m = some ob := (hA.2.2 m (by simp)).trans hm
 have hm2' : Y.hp m2 = some ob2 := (hA.2.2 m2 (by simp)).trans hm2
 obtain ⟨vx, hvx, x0, xs, hxs, _, hx0, x1, xs1, hxs1, _, ⟨b, s, hη, hx1⟩, x2, xs2, hxs2, _, hx2, hxs3⟩ := hx'
 obtain ⟨vy, hvy, y0, ys, hys, _, hy0, y1, ys1, hys1, _, ⟨b2, s2, hη2, hy1⟩, y2, ys2, hys2, _, hy2, hys3⟩ := hy'
 have ex : a.eval x = .agg #[H1, .pointer (some ⟨b, off, none⟩), F1] := by
  rw [hvx]
  congr 1
  apply Array.ext'
  rw [hxs, hxs1, hxs2, show xs2 = [] from hxs3, show x0 = H1 from hx0, hx1, show x2 = F1 from hx2]
 have ey : a.eval y = .agg #[H2, .pointer (some ⟨b2, 0, none⟩), F2] := by
  rw [hvy]
  congr 1
  apply Array.ext'
  rw [hys, hys1, hys2, show ys2 = [] from hys3, show y0 = H2 from hy0, hy1, show y2 = F2 from hy2]
 obtain ⟨cur2, fr2, hb2⟩ := hS.block hm2' hη2
 obtain ⟨u0, hu0, hu1, hR0⟩ := hb2.reps.get (j := 0) (d := c) (by rw [h2]; rfl)
 have hcell : w.cell? ⟨b2, 0, none⟩ = some u0 := by
  rw [cell_of_row w b2 0 cur2 ob2.ty fr2 hb2.heap]
  rw [List.getElem?_take] at hu0
  split at hu0
  ·simpa using hu0
  ·cases hu0
 obtain ⟨cur, fr, hb⟩ := hS.block hm' hη
 have hle := hb.le
 have hsz := hb.size
 have hmk0 := hmk u0 hu1
 have hl0 : (mk u0).cells.toList = [u0] := by rw [hmk0]
 have hst := vI P b off ob.ty fr (mk u0).cells.toList 0 cur w hb.heap hb.free (by rw [hl0]; simp; omega) (by rw [hl0]; simpa using hu1)
 have hsz2 : (mk u0).cells.size = P.cellsOf t := by rw [hmk0, hct]; rfl
 refine wR (v := .tuple #[]) (w' := w.setRow b (vK cur.toList off [u0]).toArray) ?_ (hK _ _ η ?_)
 ·have hf : a.eval (.func f) = .func (.func f) #[] #[] := rfl
  rw [Nat.add_zero, hl0] at hst
  simp only [execOp, h, resolve, hf, Deferred.ofValue, Sem.run_bind, Sem.run_pure, Result.andThen_ok, invoke]
  have h3 := hr w ⟨b, off, none⟩ ⟨b2, 0, none⟩ u0 hcell hu1
  simp only [storeVar, Sem.run_bind, Sem.run_pure, Result.andThen_ok, run_sizeOf ht, hsz2, ne_eq, not_true, if_false, hl0, hst] at h3
  simp [ex, ey, h3]
 rw [uN]
 refine Sim.put (X := { Y with hp := upd Y.hp m _ }) (hS.write hm' ho hη (setAt ob.cells off [c]) _ ?_ ?_ ?_ ?_) (d := .tup []) (u := .tuple #[]) ⟨#[], rfl, rfl⟩ o.dst
 ·simp [setAtV_length, hsz]
 ·rw [setAt_length]; exact hle
 ·rw [setAt_length]; exact hb.box
 ·rw [setAt_length]
  have hRy : Reps w (Mx Y.hp η E.A) η [c] [u0] := ⟨u0, [], rfl, hu1, hR0, rfl⟩
  have := Reps.setAt hRy off hb.reps
  refine Reps.of_get (by simp [setAt_length, setAtV_length]; omega) (fun j d hd => ?_)
  obtain ⟨u, hu, h3, h4⟩ := this.get hd
  refine ⟨u, ?_, h3, h4⟩
  rw [List.toList_toArray, setAtV_take _ _ _ _ (by simp; omega)]
  exact hu
theorem eW {t : TypeId} {x : Operand} (h : o.op = .slice t x none none none) {n e sz : Nat} (ht : P.underlying t = some (.array n e)) (h2 : (P.info? e).isSome = true) (hsz : P.cellsOf e = sz) {m : Nm} {ob : Ob} (hx : ev X x = .ptr m 0) (hm : X.hp m = some ob) (hrow : ob.row = false) (hlt : ob.ty ≠ looseT)
  (hl : ob.cells.length = n * sz) (hn : n ≤ maxLen) (h0 : 0 < n * sz) : xD Γ P o X { val := .msl m 0 n sz, F := [m] } := by
 intro E Y a w η hA hS K Q hK
 have hr := hS.ev x
 rw [hA.2.1 x (by simp [h, Op.operands]), hx] at hr
 obtain ⟨b, s, hη, he⟩ := hr
 have hm' : Y.hp m = some ob := (hA.2.2 m (by simp)).trans hm
 obtain ⟨cur, fr, hb⟩ := hS.block hm' hη
 have hs := hb.box hrow hlt
 have hbd := pX (P := P) (X := X) (l := 0) (r := n) (len := n) (cap := n) hS none none (fun y hy => by simp at hy) false rfl rfl (Nat.zero_le _) (Nat.le_refl _)
 refine wR (v := .slice (some (if n = 0 then ⟨b, 0, none⟩ else Addr.add ⟨b, 0, none⟩ (0 * sz))) (n - 0) (n - 0)) (w' := w) (by
  simp only [execOp, h, he, Instr.sliceAt, Instr.sureAddr, Sem.run_bind, Sem.run_pure, run_underlying ht, Result.andThen_ok, Option.map_none] at hbd ⊢
  simp only [hbd, Result.andThen_ok, run_sizeOf h2, hsz]) (hK _ _ η ?_)
 rw [wW]
 refine hS.put (d := .msl m 0 n sz) ⟨_, _, by rw [Nat.sub_zero], Nat.le_refl _, hn, .inr ⟨b, s, hη, ?_, by omega⟩⟩ o.dst
 by_cases e0 : n = 0
 ·simp [e0]
 ·simp [e0, sJ]
end
end Go.Ot
namespace Go.Ot
theorem Good.args {Γ : Gl} {P : Program} {f : FuncId} {args args' : List D} {ps : List Ob} {r : D} {ps' : List (Option Ob)} {ns : List Ob} (h : ∀ w M η vals, RepsA w M η args' vals → RepsA w M η args vals) (hG : Good Γ P f args ps r ps' ns) : Good Γ P f args' ps r ps' ns :=
 fun w A η vals h1 h2 h3 h4 h5 h6 h7 => hG w A η vals h1 h2 h3 h4 h5 h6 (h _ _ _ _ h7)
theorem Good.plain1 {Γ : Gl} {P : Program} {f : FuncId} {args : List D} {x : T} {v : Value} {ps : List Ob} {r : D} {ps' : List (Option Ob)} {ns : List Ob} (hp : x.plain = some v) (hG : Good Γ P f (.t (.v v) :: args) ps r ps' ns) : Good Γ P f (.t x :: args) ps r ps' ns :=
 hG.args fun w M η vals h => by
  obtain ⟨u, us, rfl, h1, h2⟩ := h
  exact ⟨u, us, rfl, RepT.plain x u v h1 hp, h2⟩
end Go.Ot
namespace Go.Ot
section
variable {Γ : Gl} {P : Program} {X : St} {ops ops' : Array Oper} {rid i : Nat} {o : Oper} {os : List Oper} {acc : List Meta} {Q : Exit → St → Prop} {K : St → List Meta → Prop} {draw : Bool}
theorem tJ {rx : Operand} {name : String} {args : Array Operand} {tys : Array TypeId} {ty : TypeId} {v v' : Value} {f : FuncId} {res : Value} (us : Array Value) (h : o.op = .call { callee := .invoke rx name, args := args, argTypes := tys })
  (hx : (ev X rx).plain = some (.iface ty v)) (hp : args.toList.all (fun x => ((ev X x).plain).isSome) = true) (hu : args.map (fun x => ((ev X x).plain).getD undef) = us) (hm : ∀ w, (method (P.types.size + Made.depth) ty v name).run P w = .ok (f, v') w)
  (hr : ∀ w, (callFunc f (#[v'] ++ us)).run P w = .ok (.value res) w) : xD Γ P o X { val := .t (.v res) } := by
 refine uL (by intro cs b e; rw [h] at e; cases e) (fun z hz => ?_) res (fun w => ?_)
 ·rw [h] at hz
  simp [Op.operands, Call.operands] at hz
  rcases hz with rfl | hz
  ·rw [hx]; rfl
  ·exact List.all_eq_true.1 hp z (by simpa using hz)
 ·have hp' : (do pure (← program) : Sem Program).run P w = .ok P w := rfl
  have h0 : (#[Value.iface ty v] ++ us)[0]? = some (.iface ty v) := by rw [Array.getElem?_append_left (by simp)]; rfl
  have h1 : (#[Value.iface ty v] ++ us).extract 1 (#[Value.iface ty v] ++ us).size = us := by
   apply Array.ext'
   simp
  simp only [execOp, h, resolve, hx, Option.getD_some, hu, Sem.run_bind, Sem.run_pure, Result.andThen_ok, invoke, h0, h1, callMethod]
  have hm' := hm w
  simp [hm', hr]
theorem eP {r : Rec} {X' : St} {i' : Nat} {gi : Nat} {want : Bool} (hsp : xD Γ P o X r) (h : wpS Γ P ops rid i' os X' [] (wN ops' false Q)) (hg : o.guard = some (gi, want) := by rfl)
 (hb : vO (vV ops X gi) want = some true := by (simp only [vV, Option.bind_some, push_cast, reduceCtorEq, Nat.reduceAdd, Nat.reduceSub, Nat.reduceMul, Nat.reduceEqDiff, Nat.reduceLT, Nat.reduceLeDiff, Nat.reduceMod, Nat.reduceDiv, Int.reduceLE, Int.reduceLT, Int.reduceEq, Int.reduceToNat, Int.reduceAdd, Int.reduceSub, Int.reduceMul, Int.reduceNeg] <;> rfl))
 (hs : wP P rid i X o = none := by (first | (simp only [push_cast, reduceCtorEq, Nat.reduceAdd, Nat.reduceSub, Nat.reduceMul, Nat.reduceEqDiff, Nat.reduceLT, Nat.reduceLeDiff, Nat.reduceMod, Nat.reduceDiv, Int.reduceLE, Int.reduceLT, Int.reduceEq, Int.reduceToNat, Int.reduceAdd, Int.reduceSub, Int.reduceMul, Int.reduceNeg]) | (simp only [wP, sM])))
 (ht : Tidy r := by first | exact (fun _ => rfl) | exact (fun h => by cases h))
 (hX : X.app o.dst r = X' := by (simp only [push_cast, reduceCtorEq, Nat.reduceAdd, Nat.reduceEqDiff] <;> rfl))
 (hi : i + 1 = i' := by (simp only [Nat.reduceAdd] <;> rfl)) : wpS Γ P ops rid i (o :: os) X [] (wN ops' false Q) := qL hg hb hs hsp ht hX hi h
end
end Go.Ot
namespace Go.Ot
theorem dF {w : World} {M : Nat → Prop} {η : Et} {H F v : Value} {m : Nm} {off : Nat} (h : Rep w M η (.agg [.t (.v H), .ptr m off, .t (.v F)]) v) : ∃ b s, η m = some (b, s) ∧ v = .agg #[H, .pointer (some ⟨b, off, none⟩), F] := by
 obtain ⟨vx, hvx, x0, xs, hxs, _, hx0, x1, xs1, hxs1, _, ⟨b, s, hη, hx1⟩, x2, xs2, hxs2, _, hx2, hxs3⟩ := h
 refine ⟨b, s, hη, ?_⟩
 rw [hvx]
 congr 1
 apply Array.ext'
 rw [hxs, hxs1, hxs2, show xs2 = [] from hxs3, show x0 = H from hx0, hx1, show x2 = F from hx2]
theorem fF {P : Program} {f PT : Nat} {H F : Value} (hr : ∀ (w : World) (a : Addr), (callFunc f #[.iface PT (.pointer (some a))]).run P w = .ok (.value (.agg #[H, .pointer (some ⟨w.heap.size, 0, none⟩), F])) (w.alloc (.cells #[.pointer (some a)] PT))) {m : Nm} {off : Nat} :
  ∀ w M η v, Rep w M η (.ifc PT (.ptr m off)) v → ∃ u, Rep w M η (.ptr m off) u ∧ u.oneCell' = true ∧ (callFunc f #[v]).run P w = .ok (.value (.agg #[H, .pointer (some ⟨w.heap.size, 0, none⟩), F])) (w.alloc (.cells #[u] PT)) := by
 rintro w M η v ⟨x, rfl, b, s, hη, rfl⟩
 exact ⟨_, ⟨b, s, hη, rfl⟩, rfl, hr w _⟩
theorem yA9 {P : Program} {f TT : Nat} {H F v0 c : Value} (h1 : c.oneCell' = true) (hr : ∀ (w : World), (callFunc f #[.iface TT v0]).run P w = .ok (.value (.agg #[H, .pointer (some ⟨w.heap.size, 0, none⟩), F])) (w.alloc (.cells #[c] TT))) :
  ∀ w M η v, Rep w M η (.t (.v (.iface TT v0))) v → ∃ u, Rep w M η (.t (.v c)) u ∧ u.oneCell' = true ∧ (callFunc f #[v]).run P w = .ok (.value (.agg #[H, .pointer (some ⟨w.heap.size, 0, none⟩), F])) (w.alloc (.cells #[u] TT)) := by
 intro w M η v hv
 have hv : v = .iface TT v0 := hv
 subst hv
 exact ⟨c, rfl, h1, hr w⟩
theorem yA8 {P : Program} {f : Nat} {H F res : Value} {m : Nm} (hr : ∀ (w : World) (a : Addr), (callFunc f #[.agg #[H, .pointer (some a), F]]).run P w = .ok (.value res) w) :
  ∀ w M η v, Rep w M η (.agg [.t (.v H), .ptr m 0, .t (.v F)]) v → ∃ u, (callFunc f #[v]).run P w = .ok (.value u) w ∧ Rep w M η (.t (.v res)) u := by
 intro w M η v hv
 obtain ⟨b, s, _, rfl⟩ := dF hv
 exact ⟨res, hr w _, rfl⟩
theorem cQ {P : Program} {f : Nat} {H F : Value} {m m2 : Nm} {off : Nat} (hr : ∀ (w : World) (a p : Addr), w.cell? a = some (.pointer (some p)) → (callFunc f #[.agg #[H, .pointer (some a), F]]).run P w = .ok (.value (.bool false)) w) :
  ∀ w M η v b s u0, Rep w M η (.agg [.t (.v H), .ptr m 0, .t (.v F)]) v → η m = some (b, s) → w.cell? ⟨b, 0, none⟩ = some u0 → Rep w M η (.ptr m2 off) u0 → ∃ u, (callFunc f #[v]).run P w = .ok (.value u) w ∧ Rep w M η (.t (.v (.bool false))) u := by
 intro w M η v b s u0 hv hη hc h0
 obtain ⟨b', s', hη', rfl⟩ := dF hv
 rw [hη] at hη'
 cases hη'
 obtain ⟨b2, s2, _, rfl⟩ := h0
 exact ⟨_, hr w _ _ hc, rfl⟩
theorem yBa {P : Program} {f : Nat} {H F H' F' : Value} {m m2 : Nm} {off : Nat} (h1 : H'.oneCell' = true) (h2 : F'.oneCell' = true) (hr : ∀ (w : World) (a p : Addr), w.cell? a = some (.pointer (some p)) → (callFunc f #[.agg #[H, .pointer (some a), F]]).run P w = .ok (.value (.agg #[H', .pointer (some p), F'])) w) :
  ∀ w M η v b s u0, Rep w M η (.agg [.t (.v H), .ptr m 0, .t (.v F)]) v → η m = some (b, s) → w.cell? ⟨b, 0, none⟩ = some u0 → Rep w M η (.ptr m2 off) u0 → ∃ u, (callFunc f #[v]).run P w = .ok (.value u) w ∧ Rep w M η (.agg [.t (.v H'), .ptr m2 off, .t (.v F')]) u := by
 intro w M η v b s u0 hv hη hc h0
 obtain ⟨b', s', hη', rfl⟩ := dF hv
 rw [hη] at hη'
 cases hη'
 obtain ⟨b2, s2, hη2, rfl⟩ := h0
 exact ⟨_, hr w _ _ hc, _, rfl, _, _, rfl, h1, rfl, _, _, rfl, rfl, ⟨b2, s2, hη2, rfl⟩, _, _, rfl, h2, rfl, rfl⟩
end Go.Ot
namespace Go.Ot
section
variable {Γ : Gl} {P : Program} {X : St} {ops ops' : Array Oper} {rid i : Nat} {o : Oper} {os : List Oper} {acc : List Meta} {Q : Exit → St → Prop} {K : St → List Meta → Prop} {draw : Bool}
theorem yE6 {gi : Nat} {want : Bool} {g : Operand} {args : Array Operand} {tys : Array TypeId} {f : FuncId} {caps cargs : List D} {r : D} {ps : List Ob} {ps' : List (Option Ob)} {ns : List Ob} {X' : St} {i' : Nat} (nms len poi : List Nm) (sh : Bool) (hG : Good Γ P f cargs ps r ps' ns) (h : wpS Γ P ops rid i' os X' [] (wN ops' false Q)) (hg : o.guard = some (gi, want) := by rfl)
 (hb : vO (vV ops X gi) want = some true := by (simp only [vV, Option.bind_some, push_cast, reduceCtorEq, Nat.reduceAdd, Nat.reduceSub, Nat.reduceMul, Nat.reduceEqDiff, Nat.reduceLT, Nat.reduceLeDiff, Nat.reduceMod, Nat.reduceDiv, Int.reduceLE, Int.reduceLT, Int.reduceEq, Int.reduceToNat, Int.reduceAdd, Int.reduceSub, Int.reduceMul, Int.reduceNeg] <;> rfl))
 (ho : o.op = .call { callee := .value g, args := args, argTypes := tys } := by rfl)
 (hs : wP P rid i X o = none := by (simp only [wP, sM]))
 (hf : ev X g = .fn f caps := by (simp only [push_cast, reduceCtorEq, Nat.reduceAdd, Nat.reduceSub, Nat.reduceMul, Nat.reduceEqDiff, Nat.reduceLT, Nat.reduceLeDiff, Nat.reduceMod, Nat.reduceDiv, Int.reduceLE, Int.reduceLT, Int.reduceEq, Int.reduceToNat, Int.reduceAdd, Int.reduceSub, Int.reduceMul, Int.reduceNeg] <;> rfl))
 (hk : yQ P f = true := by (simp only [push_cast]))
 (hv : VwL (vC nms) X.hp (· ∈ len) cargs (args.toList.map (ev X) ++ caps) := by (simp [-List.map_map, -List.map_drop, -List.map_take, VwL_cons, xM, xY, vN, xV, xW, xU, Vw_agg, xS, xX, xA, VwL_refl_map, yX, xK, xL, wK, xJ, yW, xC, yV, VwTs_app, List.take_of_length_le, srcL, notIn, ObsVw, SrcOk, pOk, Go.Ot.look, resP, resN, ev, evc, mkS, push_cast, vC, ObsAt, PoiOk]))
 (hobs : ObsAt (vC nms) (· ∈ len) X.hp nms ps := by (simp [-List.map_map, -List.map_drop, -List.map_take, VwL_cons, xM, xY, vN, xV, xW, xU, Vw_agg, xS, xX, xA, VwL_refl_map, yX, xK, xL, wK, xJ, yW, xC, yV, VwTs_app, List.take_of_length_le, srcL, notIn, ObsVw, SrcOk, pOk, Go.Ot.look, resP, resN, ev, evc, mkS, push_cast, vC, ObsAt, PoiOk]))
 (hnd : nms.Nodup := by (simp [-List.map_map, -List.map_drop, -List.map_take, VwL_cons, xM, xY, vN, xV, xW, xU, Vw_agg, xS, xX, xA, VwL_refl_map, yX, xK, xL, wK, xJ, yW, xC, yV, VwTs_app, List.take_of_length_le, srcL, notIn, ObsVw, SrcOk, pOk, Go.Ot.look, resP, resN, ev, evc, mkS, push_cast, vC, ObsAt, PoiOk]))
 (hdis : ∀ m ∈ len, m ∉ nms := by (simp))
 (hlex : ∀ m ∈ len, X.hp m ≠ none := by (simp [Go.Ot.look]))
 (hpoi : PoiOk poi nms ps ps' := by (simp [-List.map_map, -List.map_drop, -List.map_take, VwL_cons, xM, xY, vN, xV, xW, xU, Vw_agg, xS, xX, xA, VwL_refl_map, yX, xK, xL, wK, xJ, yW, xC, yV, VwTs_app, List.take_of_length_le, srcL, notIn, ObsVw, SrcOk, pOk, Go.Ot.look, resP, resN, ev, evc, mkS, push_cast, vC, ObsAt, PoiOk]))
 (hnew : ∀ k, k < ns.length → X.hp (.r rid i k) = none := by (simp [Go.Ot.look]))
 (hsh : sh = false → r.flat = true ∧ (∀ ob ∈ ns, D.flatL ob.cells = true) ∧ ∀ ob, some ob ∈ ps' → D.flatL ob.cells = true := by (simp [-List.map_map, -List.map_drop, -List.map_take, D.flat, D.flatL, T.flat, T.flatL, flatL_map_t, push_cast]))
 (hlp : sh = true → ∀ m ∈ len, ∀ ob, X.hp m = some ob → ∀ p ∈ poi, D.hasL p ob.cells = false := by (simp [Go.Ot.look, D.hasL, D.has, push_cast]))
 (ht : Tidy (vM X nms r ps' ns rid i sh len poi) := by first | exact (fun _ => rfl) | exact (fun h => by cases h))
 (hX : X.app o.dst (vM X nms r ps' ns rid i sh len poi) = X' := by (simp only [push_cast, reduceCtorEq, Nat.reduceAdd, Nat.reduceEqDiff] <;> rfl))
 (hi : i + 1 = i' := by (simp only [Nat.reduceAdd] <;> rfl)) : wpS Γ P ops rid i (o :: os) X [] (wN ops' false Q) := qL hg hb hs (pW ho hf hk nms len poi hG hv hobs hnd hdis hlex hpoi rid i hnew sh hsh hlp) ht hX hi h
end
end Go.Ot

namespace Go.Ot
def gK (Γ : Gl) (P : Program) (ops : Array Oper) (rid : Nat) (m : Nm) (Ks : List Nat) (i : Nat) (os : List Oper) (X : St) (acc : List Rec) (K : St → List Rec → Prop) : Prop := (∀ k, os[k]? = ops[i + k]?) → i ≤ ops.size → ∃ rs Z, ChainK Γ P ops m Ks i X rs Z ∧ K Z (acc ++ rs)
def yHK (m : Nm) (Ks : List Nat) (ops : Array Oper) (rs : List Rec) : Bool :=
 let an := ancs ops.toList []
 (List.range rs.length).all fun k => match ops[k]?, rs[k]? with
  | some o, some r => (!r.val.has m || (match o.dst with | some s => Ks.contains s | none => true)) || (List.range rs.length).all fun i => ((match rs[i]? with | some r' => r'.poi.isEmpty | none => true) || i == k) || (an.getD k 0).testBit i
  | _, _ => true
theorem yCc {m : Nm} {Ks : List Nat} {ops : Array Oper} {rs : List Rec} (h : yHK m Ks ops rs = true) (k : Nat) (o : Oper) (r : Rec) (ho : ops[k]? = some o) (hr : rs[k]? = some r) :
  r.val.has m = false ∨ (∀ s, o.dst = some s → s ∈ Ks) ∨ ∀ (i : Nat) r', rs[i]? = some r' → r'.poi ≠ [] → i ≠ k → ((ancs ops.toList []).getD k 0).testBit i = true := by
 simp only [yHK, List.all_eq_true, List.mem_range] at h
 have hk := h k (List.getElem?_eq_some_iff.1 hr).1
 simp only [ho, hr, Bool.or_eq_true, List.all_eq_true, List.mem_range] at hk
 rcases hk with (h1 | h1) | h1
 ·exact .inl (by simpa using h1)
 ·refine .inr (.inl fun s hs => ?_)
  rw [hs] at h1
  simpa using h1
 ·refine .inr (.inr fun i r' hi hp hne => ?_)
  have := h1 i (List.getElem?_eq_some_iff.1 hi).1
  rw [hi] at this
  simp only at this
  rcases this with (h2 | h2) | h2
  ·exact absurd (by simpa using h2) hp
  ·exact absurd (by simpa using h2) hne
  ·exact h2
theorem yBN {Q : Nm → Ob → Prop} : ∀ {L : List (Nm × Ob)}, (∀ p ∈ L, Q p.1 p.2) → ∀ m ob, look L m = some ob → Q m ob
 | [], _, _, _, h => by simp [look] at h
 | (m', o') :: L, hL, m, ob, h => by
  simp only [look] at h
  split at h
  ·rename_i e; cases h; subst e; exact hL (m', o') (by simp)
  ·exact yBN (fun p hp => hL p (List.mem_cons_of_mem _ hp)) m ob h
section
variable {Γ : Gl} {P : Program} {X : St} {ops : Array Oper} {rid i : Nat} {o : Oper} {os : List Oper} {m : Nm} {Ks : List Nat} {acc : List Rec} {Q : Exit → St → Prop} {K : St → List Rec → Prop}
theorem tD (m : Nm) (Ks : List Nat) (KO : List Nm) {l : List Oper} (hl : ops.toList = l) (h : gK Γ P ops rid m Ks 0 l X [] (fun Z rs => GOk ops X rs m [m] Ks KO ∧ Q .normal Z)) : wpK Γ P (.region rid ops true) Q X := by
 subst hl
 obtain ⟨rs, Z, h1, h2, h3⟩ := h (fun k => by simp) (Nat.zero_le _)
 exact yEd ⟨m, [m], Ks, KO, rs, Z, h1, h2, h3⟩
theorem kK (h : K X acc) : gK Γ P ops rid m Ks i [] X acc K := fun hos hle => by
 have hi : i = ops.size := by
  have := hos 0
  simp only [List.getElem?_nil, Nat.add_zero] at this
  have := Array.getElem?_eq_none_iff.1 this.symm
  omega
 exact ⟨[], X, .nil hi, by rwa [List.append_nil]⟩
theorem g_by {r : Rec} {X' : St} {i' : Nat} {acc' : List Rec} (hsp : xD Γ P o X r) (h : gK Γ P ops rid m Ks i' os X' acc' K) (hg : o.guard = none := by rfl)
 (hX : X.app o.dst r = X' := by (simp only [push_cast, reduceCtorEq, Nat.reduceAdd, Nat.reduceEqDiff] <;> rfl))
 (hk : eH m Ks X r := by (first | exact .inl rfl | (refine .inr ?_; simp [D.poi, D.has, D.hasL, push_cast])))
 (ha : acc ++ [r] = acc' := by (simp only [List.nil_append, List.cons_append] <;> rfl))
 (hi' : i + 1 = i' := by (simp only [Nat.reduceAdd] <;> rfl))   : gK Γ P ops rid m Ks i (o :: os) X acc K := by
 subst hX ha hi'
 intro hos hle
 have hi : ops[i]? = some o := by simpa using (hos 0).symm
 obtain ⟨rs, Z, h1, h2⟩ := h (fun k => by
  have := hos (k + 1)
  rw [List.getElem?_cons_succ] at this
  rw [this]
  congr 1
  omega) (Array.getElem?_eq_some_iff.1 hi).1
 exact ⟨r :: rs, Z, .cons hi (.inl ⟨by simp [kI, hg], hsp⟩) hk h1, by simpa using h2⟩
theorem nK {r : Rec} {c : Prop} {X' : St} {i' : Nat} {acc' : List Rec} (h : gK Γ P ops rid m Ks i' os X' acc' K) (hg : o.guard = none := by rfl)
 (hs : wP P rid i X o = some (r, c) := by (simp (disch := first | omega | (simp only [zL] <;> omega) | (simp only [push_cast] <;> omega) | fail) only [push_cast, reduceCtorEq, Nat.reduceAdd, Nat.reduceSub, Nat.reduceMul, Nat.reduceEqDiff, Nat.reduceLT, Nat.reduceLeDiff, Nat.reduceMod, Nat.reduceDiv, Int.reduceLE, Int.reduceLT, Int.reduceEq, Int.reduceToNat, Int.reduceAdd, Int.reduceSub, Int.reduceMul, Int.reduceNeg] <;> rfl))
 (hc : c := by (first | exact True.intro | omega | (simp only [zL] <;> omega) | (simp (disch := first | omega | (simp only [zL] <;> omega) | (simp only [push_cast] <;> omega) | fail) only [push_cast, reduceCtorEq, Nat.reduceAdd, Nat.reduceSub, Nat.reduceMul, Nat.reduceEqDiff, Nat.reduceLT, Nat.reduceLeDiff, Nat.reduceMod, Nat.reduceDiv, Int.reduceLE, Int.reduceLT, Int.reduceEq, Int.reduceToNat, Int.reduceAdd, Int.reduceSub, Int.reduceMul, Int.reduceNeg] <;> (try simp only [zL]) <;> omega)))
 (hX : X.app o.dst r = X' := by (simp only [push_cast, reduceCtorEq, Nat.reduceAdd, Nat.reduceEqDiff] <;> rfl))
 (hk : eH m Ks X r := by (first | exact .inl rfl | (refine .inr ?_; simp [D.poi, D.has, D.hasL, push_cast])))
 (ha : acc ++ [r] = acc' := by (simp only [List.nil_append, List.cons_append] <;> rfl))
 (hi' : i + 1 = i' := by (simp only [Nat.reduceAdd] <;> rfl))   : gK Γ P ops rid m Ks i (o :: os) X acc K := g_by (jF hs hc).1 h hg hX hk ha hi'
theorem vB {g : Operand} {args : Array Operand} {tys : Array TypeId} {f : FuncId} {caps cargs : List D} {r : D} {ps : List Ob} {ps' : List (Option Ob)} {ns : List Ob} {X' : St} {i' : Nat} {r0 : Rec} {acc' : List Rec} (nms len poi : List Nm) (sh : Bool) (hG : Good Γ P f cargs ps r ps' ns) (h : gK Γ P ops rid m Ks i' os X' acc' K) (hg : o.guard = none := by rfl)
 (ho : o.op = .call { callee := .value g, args := args, argTypes := tys } := by rfl)
 (hs : wP P rid i X o = none := by (simp only [wP, sM]))
 (hf : ev X g = .fn f caps := by (simp only [push_cast, reduceCtorEq, Nat.reduceAdd, Nat.reduceSub, Nat.reduceMul, Nat.reduceEqDiff, Nat.reduceLT, Nat.reduceLeDiff, Nat.reduceMod, Nat.reduceDiv, Int.reduceLE, Int.reduceLT, Int.reduceEq, Int.reduceToNat, Int.reduceAdd, Int.reduceSub, Int.reduceMul, Int.reduceNeg] <;> rfl))
 (hk : yQ P f = true := by (simp only [push_cast]))
 (hv : VwL (vC nms) X.hp (· ∈ len) cargs (args.toList.map (ev X) ++ caps) := by (simp [-List.map_map, -List.map_drop, -List.map_take, VwL_cons, xM, xY, vN, xV, xW, xU, Vw_agg, xS, xX, xA, VwL_refl_map, yX, xK, xL, wK, xJ, yW, xC, yV, VwTs_app, List.take_of_length_le, srcL, notIn, ObsVw, SrcOk, pOk, Go.Ot.look, resP, resN, ev, evc, mkS, push_cast, vC, ObsAt, PoiOk]))
 (hobs : ObsAt (vC nms) (· ∈ len) X.hp nms ps := by (simp [-List.map_map, -List.map_drop, -List.map_take, VwL_cons, xM, xY, vN, xV, xW, xU, Vw_agg, xS, xX, xA, VwL_refl_map, yX, xK, xL, wK, xJ, yW, xC, yV, VwTs_app, List.take_of_length_le, srcL, notIn, ObsVw, SrcOk, pOk, Go.Ot.look, resP, resN, ev, evc, mkS, push_cast, vC, ObsAt, PoiOk]))
 (hnd : nms.Nodup := by (simp [-List.map_map, -List.map_drop, -List.map_take, VwL_cons, xM, xY, vN, xV, xW, xU, Vw_agg, xS, xX, xA, VwL_refl_map, yX, xK, xL, wK, xJ, yW, xC, yV, VwTs_app, List.take_of_length_le, srcL, notIn, ObsVw, SrcOk, pOk, Go.Ot.look, resP, resN, ev, evc, mkS, push_cast, vC, ObsAt, PoiOk]))
 (hdis : ∀ m ∈ len, m ∉ nms := by (simp))
 (hlex : ∀ m ∈ len, X.hp m ≠ none := by (simp [Go.Ot.look]))
 (hpoi : PoiOk poi nms ps ps' := by (simp [-List.map_map, -List.map_drop, -List.map_take, VwL_cons, xM, xY, vN, xV, xW, xU, Vw_agg, xS, xX, xA, VwL_refl_map, yX, xK, xL, wK, xJ, yW, xC, yV, VwTs_app, List.take_of_length_le, srcL, notIn, ObsVw, SrcOk, pOk, Go.Ot.look, resP, resN, ev, evc, mkS, push_cast, vC, ObsAt, PoiOk]))
 (hnew : ∀ k, k < ns.length → X.hp (.r rid i k) = none := by (simp [Go.Ot.look]))
 (hsh : sh = false → r.flat = true ∧ (∀ ob ∈ ns, D.flatL ob.cells = true) ∧ ∀ ob, some ob ∈ ps' → D.flatL ob.cells = true := by (simp [-List.map_map, -List.map_drop, -List.map_take, D.flat, D.flatL, T.flat, T.flatL, flatL_map_t, push_cast]))
 (hlp : sh = true → ∀ m ∈ len, ∀ ob, X.hp m = some ob → ∀ p ∈ poi, D.hasL p ob.cells = false := by (simp [Go.Ot.look, D.hasL, D.has, push_cast]))
 (hr0 : vM X nms r ps' ns rid i sh len poi = r0 := by (simp only [push_cast, reduceCtorEq, Nat.reduceAdd, Nat.reduceEqDiff] <;> rfl))
 (hX : X.app o.dst r0 = X' := by (simp only [push_cast, reduceCtorEq, Nat.reduceAdd, Nat.reduceEqDiff] <;> rfl))
 (hkl : eH m Ks X r0 := by (first | exact .inl rfl | (refine .inr ?_; simp [D.poi, D.has, D.hasL, push_cast])))
 (ha : acc ++ [r0] = acc' := by (simp only [List.nil_append, List.cons_append] <;> rfl))
 (hi' : i + 1 = i' := by (simp only [Nat.reduceAdd] <;> rfl))   : gK Γ P ops rid m Ks i (o :: os) X acc K := by
 subst hr0
 exact g_by (pW ho hf hk nms len poi hG hv hobs hnd hdis hlex hpoi rid i hnew sh hsh hlp) h hg hX hkl ha hi'
theorem yC4 {KO : List Nm} {L : List (Nm × Ob)} {sl : List D} {rs : List Rec} (h1 : kB ops (eS m Ks KO ⟨sl, look L⟩ ops.toList rs) = true) (h6 : yHK m Ks ops rs = true)
 (h2 : ∀ r ∈ rs, r.poi = [] ∨ r.poi = [m] := by simp)
 (h3 : jM m Ks 0 sl = true := by simp [-List.map_map, jM, D.has, D.hasL, push_cast])
 (h4 : ∀ p ∈ L, p.1 ∉ KO → D.hasL m p.2.cells = false := by simp [-List.map_map, D.has, D.hasL, push_cast])
 (h5 : ∀ r ∈ rs, ∀ p ∈ r.upd, p.1 ∉ KO → ∀ ob, p.2 = some ob → D.hasL m ob.cells = false := by simp [-List.map_map, D.has, D.hasL, push_cast])
 (h7 : ∀ s ∈ Ks, s < sl.length := by simp) : GOk ops ⟨sl, look L⟩ rs m [m] Ks KO := ⟨h1, fun r hr => (h2 r hr).elim .inl (fun e => .inr ⟨m, by simp, e⟩), fun m2 e => by obtain rfl := List.mem_singleton.1 e; exact h3, fun m2 e m' ob hm h => by obtain rfl := List.mem_singleton.1 e; exact yBN (Q := fun m' ob => m' ∉ KO → D.hasL m2 ob.cells = false) (fun p hp => h4 p hp) m' ob h hm, fun m2 e k r hk => by obtain rfl := List.mem_singleton.1 e; exact .inl (h5 r (List.mem_of_getElem? hk)), fun m2 e k o r => by obtain rfl := List.mem_singleton.1 e; exact yCc h6 k o r, h7⟩
end
end Go.Ot

namespace Go.Ot
section
variable {Γ : Gl} {P : Program} {X : St} {ops ops' : Array Oper} {rid i : Nat} {o : Oper} {os : List Oper} {acc : List Meta} {Q : Exit → St → Prop} {K : St → List Meta → Prop} {draw : Bool}
end
end Go.Ot

namespace Go.Ot
section
variable {Γ : Gl} {P : Program} {X : St} {ops ops' : Array Oper} {rid i : Nat} {o : Oper} {os : List Oper} {acc : List Meta} {Q : Exit → St → Prop} {K : St → List Meta → Prop} {draw : Bool}
end
end Go.Ot

namespace Go.Ot
def meetF {α : Type} (Γ : Gl) (F : α → St) (hI : α → Prop) (Q : Exit → St → Prop) (e : Exit) (Z : St) : Prop := match e with | .normal => ∃ a, Le Γ Z (F a) ∧ hI a | e => Q e Z
theorem vU {α : Type} {Γ : Gl} {F : α → St} {hI : α → Prop} {Q : Exit → St → Prop} {X : St} (a : α) (h1 : Le Γ X (F a)) (h2 : hI a) : meetF Γ F hI Q .normal X := ⟨a, h1, h2⟩
theorem dR {Γ : Gl} {P : Program} {Q : Exit → St → Prop} {a b : Code} {α : Type} {sl : List D} {L : List (Nm × Ob)} (F : List D → List (Nm × Ob) → α → St) (hI : α → Prop)
  (h : wpK Γ P a (meetF Γ (F sl L) hI Q) ⟨sl, look L⟩) (h' : ∀ x, hI x → wpK Γ P b Q (F sl L x)) : wpK Γ P (.seq a b) Q ⟨sl, look L⟩ :=
 uT a (fun e Z h => by
  cases e with
  | normal =>
   obtain ⟨x, h1, h2⟩ := h
   exact ⟨F sl L x, h1, h' x h2⟩
  | exit id => exact h
  | goto l => exact h
  | ret => exact h
  | panic ch => exact h
  | outgrown => exact h) _ h
end Go.Ot

namespace Go.Ot
section
variable {Γ : Gl} {P : Program} {o : Oper} {X : St}
theorem fN (x : Operand) (t : TypeId) (h : o.op = .call { callee := .builtin .clear, args := #[x], argTypes := #[t] }) {e : TypeId} (ht : P.underlying t = some (.slice e)) {z : Value} (hz : ∀ w, (zeroValue e).run P w = .ok z w) (hzc : z.cells = #[z]) (h1 : z.oneCell' = true)
  {m : Nm} {off n : Nat} (hx : ev X x = .msl m off n 1) {ob : Ob} (hm : X.hp m = some ob) (ho : ob.own = true) (hn : 0 < n) (hle : off + n ≤ ob.cells.length) {dz : T} (hd : ∀ w M, RepT w M dz z) :
  xD Γ P o X { val := .bad, F := [m], upd := [(m, some { ob with cells := setAt ob.cells off (List.replicate n (.t dz)) })] } := by
 intro E Y a w η hA hS K Q hK
 have hr := hS.ev x
 rw [hA.2.1 x (by simp [h, Op.operands, Call.operands]), hx] at hr
 obtain ⟨A, c, he, hnc, hcm, hR⟩ := hr
 have hm' : Y.hp m = some ob := (hA.2.2 m (by simp)).trans hm
 rcases hR with hR | ⟨b, s, hη, rfl, hs⟩
 ·omega
 obtain ⟨cur, fr, hb⟩ := hS.block hm' hη
 have hle' := hb.le
 have hsz := hb.size
 have hRy : Reps w (Mx Y.hp η E.A) η (List.replicate n (D.t dz)) (List.replicate n z) := Reps.of_get (by simp) (fun j d hd' => by
  rw [List.getElem?_replicate] at hd' ⊢
  split at hd'
  ·rename_i hj
   cases hd'
   exact ⟨z, by rw [if_pos hj], h1, hd _ _⟩
  ·cases hd')
 have hst := vI P b off ob.ty fr (List.replicate n z) 0 cur w hb.heap hb.free (by simp; omega) hRy.one
 rw [Nat.add_zero] at hst
 have hzl : (Builtin.zeroCells z.cells n).toList = List.replicate n z := by
  rw [hzc]
  simp [Builtin.zeroCells]
  apply List.ext_getElem
  ·simp
  ·intro i h1 h2
   simp [Nat.mod_one]
 have hrun : (Builtin.clear_ #[t] o.type #[.slice (some ⟨b, off, none⟩) n c]).run P w = .ok (.tuple #[]) (w.setRow b (vK cur.toList off (List.replicate n z)).toArray) := by
  obtain ⟨k, rfl⟩ : ∃ k, n = k + 1 := ⟨n - 1, by omega⟩
  simp [Builtin.clear_, run_underlying ht, hz, hzl, hst]
 refine wR (v := .tuple #[]) (w' := w.setRow b (vK cur.toList off (List.replicate n z)).toArray) (by simp [execOp, h, resolve, invoke, builtin, he, hrun]) (hK _ _ η ?_)
 rw [uN]
 refine Sim.put (X := { Y with hp := upd Y.hp m _ }) (hS.write hm' ho hη (setAt ob.cells off (List.replicate n (.t dz))) _ ?_ ?_ ?_ ?_) (d := .bad) (u := .tuple #[]) trivial o.dst
 ·simp [setAtV_length, hsz]
 ·rw [setAt_length]; exact hle'
 ·rw [setAt_length]; exact hb.box
 ·rw [setAt_length]
  have := Reps.setAt hRy off hb.reps
  refine Reps.of_get (by simp [setAt_length, setAtV_length]; omega) (fun j d hd => ?_)
  obtain ⟨u, hu, h3, h4⟩ := this.get hd
  refine ⟨u, ?_, h3, h4⟩
  have key : ∀ (us : List Value) (cs : List Value) (off n : Nat), off + us.length ≤ n → (vK cs off us).take n = vK (cs.take n) off us := by
   intro us
   induction us with
   | nil => intro cs off n _; rfl
   | cons u us ih =>
    intro cs off n hn
    simp only [vK]
    rw [ih _ _ _ (by simp at hn; omega), List.take_set]
  rw [List.toList_toArray, key _ _ _ _ (by simp; omega)]
  exact hu
end
theorem yD7 {Γ : Gl} {X : St} (m : Nm) (k : Nat) {ob : Ob} (hm : X.hp m = some ob) (hr : ob.row = true) : Le Γ X ⟨X.sl, upd X.hp m (some { ob with cells := ob.cells.take k })⟩ := by
 intro E a w η hS
 have hmut : ∀ b, Mut (upd X.hp m (some { ob with cells := ob.cells.take k })) η b ↔ Mut X.hp η b := by
  intro b
  constructor
  ·rintro ⟨m', ob', s, h1, h2, h3⟩
   by_cases e : m' = m
   ·subst e; rw [upd_same] at h1; cases h1; exact ⟨m', ob, s, hm, h2, h3⟩
   ·rw [upd_ne e] at h1; exact ⟨m', ob', s, h1, h2, h3⟩
  ·rintro ⟨m', ob', s, h1, h2, h3⟩
   by_cases e : m' = m
   ·subst e; rw [hm] at h1; cases h1; exact ⟨m', _, s, upd_same _ _ _, h2, h3⟩
   ·exact ⟨m', ob', s, by rw [upd_ne e]; exact h1, h2, h3⟩
 have hMx : Mx (upd X.hp m (some { ob with cells := ob.cells.take k })) η E.A = Mx X.hp η E.A := by
  funext b
  exact propext (or_congr_left (hmut b))
 refine ⟨η, { hS with slots := ?_, ok := ?_, mine := ?_, pin := ?_ }⟩
 ·show RepsA w (Mx (upd X.hp m _) η E.A) η X.sl _
  rw [hMx]; exact hS.slots
 ·refine { hS.ok with objs := fun m' ob' h => ?_, dom := fun m' q h => ?_ }
  ·show ObRep w (Mx (upd X.hp m _) η E.A) η m' ob'
   rw [hMx]
   by_cases e : m' = m
   ·subst e
    have h : upd X.hp m' (some { ob with cells := ob.cells.take k }) m' = some ob' := h
    rw [upd_same] at h
    cases h
    have := hS.ok.objs m' ob hm
    unfold ObRep at this ⊢
    split at this
    ·rename_i hη
     simp only [hη]
     exact ⟨this.1, by simp [this.2]⟩
    ·rename_i b s hη
     simp only [hη]
     obtain ⟨cur, fr, h1, h2, h3, h4, h5, h6⟩ := this
     refine ⟨cur, fr, h1, h2, h3, by simp; omega, (fun hf => by rw [hr] at hf; cases hf), ?_⟩
     have := Reps.take h6 k
     rw [List.take_take] at this
     rw [List.length_take]
     exact this
   ·have h : upd X.hp m (some { ob with cells := ob.cells.take k }) m' = some ob' := h
    rw [upd_ne e] at h
    exact hS.ok.objs m' ob' h
  ·show upd X.hp m _ m' ≠ none
   by_cases e : m' = m
   ·subst e; rw [upd_same]; simp
   ·rw [upd_ne e]; exact hS.ok.dom m' q h
 ·intro m' ob' b s h1 h2 h3
  have h1 : upd X.hp m (some { ob with cells := ob.cells.take k }) m' = some ob' := h1
  by_cases e : m' = m
  ·subst e; rw [upd_same] at h1; cases h1; exact hS.mine m' ob b s hm h2 h3
  ·rw [upd_ne e] at h1; exact hS.mine m' ob' b s h1 h2 h3
 ·intro m' ob' q h1 h2 h3
  have h1 : upd X.hp m (some { ob with cells := ob.cells.take k }) m' = some ob' := h1
  by_cases e : m' = m
  ·subst e; rw [upd_same] at h1; cases h1; rw [hr] at h2; cases h2
  ·rw [upd_ne e] at h1; exact hS.pin m' ob' q h1 h2 h3
theorem eG {Γ : Gl} {sl : List D} {L : List (Nm × Ob)} (m : Nm) (k : Nat) {ob : Ob} (hm : look L m = some ob) (hr : ob.row = true) : Le Γ ⟨sl, look L⟩ ⟨sl, look (vD m { ob with cells := ob.cells.take k } L)⟩ := by
 have := yD7 (Γ := Γ) (X := ⟨sl, look L⟩) m k hm hr
 rwa [qH] at this
end Go.Ot
