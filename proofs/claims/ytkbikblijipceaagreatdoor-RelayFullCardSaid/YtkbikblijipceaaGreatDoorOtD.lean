/- The walk's steps, each in one word: what has to be reckoned beside them is reckoned by the same few words every time. -/
import Derived.Test.YtkbikblijipceaaGreatDoorOtC
import Derived.Below
import Derived.Lib.Join
import Derived.Lib.Repeat
set_option linter.unusedVariables false
set_option linter.unusedSimpArgs false
namespace Go.Ot
theorem gO {src : Nm → Option Nm} {hp : Nm → Option Ob} {len : Nm → Prop} {x : T} : Vw src hp len (.t x) (.t x) := xA hp len x
theorem yE8 {src : Nm → Option Nm} {hp : Nm → Option Ob} {len : Nm → Prop} {c d : D} {cs ds : List D} (h1 : Vw src hp len c d) (h2 : VwL src hp len cs ds) : VwL src hp len (c :: cs) (d :: ds) := VwL_cons.2 ⟨h1, h2⟩
theorem yE7 {src : Nm → Option Nm} {hp : Nm → Option Ob} {len : Nm → Prop} : VwL src hp len [] [] := rfl
theorem Vw_a {src : Nm → Option Nm} {hp : Nm → Option Ob} {len : Nm → Prop} {cs ds : List D} (h : VwL src hp len cs ds) : Vw src hp len (.agg cs) (.agg ds) := Vw_agg.2 h
section
variable {Γ : Gl} {P : Program} {X : St} {ops ops' : Array Oper} {rid i : Nat} {o : Oper} {os : List Oper} {acc : List Meta} {Q : Exit → St → Prop} {K : St → List Meta → Prop} {draw : Bool}
theorem yF {r : Rec} {c : Prop} {X' : St} {i' : Nat} (h : wpS Γ P ops rid i' os X' [] (wN ops' false Q)) (hg : o.guard = none := by rfl)
 (hs : wP P rid i X o = some (r, c) := by (simp (disch := first | omega | (simp only [zL] <;> omega) | (simp only [push_cast] <;> omega) | fail) only [push_cast, reduceCtorEq, Nat.reduceAdd, Nat.reduceSub, Nat.reduceMul, Nat.reduceEqDiff, Nat.reduceLT, Nat.reduceLeDiff, Nat.reduceMod, Nat.reduceDiv, Int.reduceLE, Int.reduceLT, Int.reduceEq, Int.reduceToNat, Int.reduceAdd, Int.reduceSub, Int.reduceMul, Int.reduceNeg] <;> rfl))
 (hc : c := by (first | exact True.intro | omega | (simp only [zL] <;> omega) | (simp (disch := first | omega | (simp only [zL] <;> omega) | (simp only [push_cast] <;> omega) | fail) only [push_cast, reduceCtorEq, Nat.reduceAdd, Nat.reduceSub, Nat.reduceMul, Nat.reduceEqDiff, Nat.reduceLT, Nat.reduceLeDiff, Nat.reduceMod, Nat.reduceDiv, Int.reduceLE, Int.reduceLT, Int.reduceEq, Int.reduceToNat, Int.reduceAdd, Int.reduceSub, Int.reduceMul, Int.reduceNeg] <;> (try simp only [zL]) <;> omega)))
 (hX : X.app o.dst r = X' := by (simp only [push_cast, reduceCtorEq, Nat.reduceAdd, Nat.reduceEqDiff] <;> rfl))
 (hi : i + 1 = i' := by (simp only [Nat.reduceAdd] <;> rfl)) : wpS Γ P ops rid i (o :: os) X [] (wN ops' false Q) := yFJ hg hs hc hX hi h
theorem xB {r : Rec} {c : Prop} {g : Nat} {want : Bool} {X' : St} {i' : Nat} (h : wpS Γ P ops rid i' os X' [] (wN ops' false Q)) (hg : o.guard = some (g, want) := by rfl)
 (hb : vO (vV ops X g) want = some true := by (simp only [vV, Option.bind_some, push_cast, reduceCtorEq, Nat.reduceAdd, Nat.reduceSub, Nat.reduceMul, Nat.reduceEqDiff, Nat.reduceLT, Nat.reduceLeDiff, Nat.reduceMod, Nat.reduceDiv, Int.reduceLE, Int.reduceLT, Int.reduceEq, Int.reduceToNat, Int.reduceAdd, Int.reduceSub, Int.reduceMul, Int.reduceNeg] <;> rfl))
 (hs : wP P rid i X o = some (r, c) := by (simp (disch := first | omega | (simp only [zL] <;> omega) | (simp only [push_cast] <;> omega) | fail) only [push_cast, reduceCtorEq, Nat.reduceAdd, Nat.reduceSub, Nat.reduceMul, Nat.reduceEqDiff, Nat.reduceLT, Nat.reduceLeDiff, Nat.reduceMod, Nat.reduceDiv, Int.reduceLE, Int.reduceLT, Int.reduceEq, Int.reduceToNat, Int.reduceAdd, Int.reduceSub, Int.reduceMul, Int.reduceNeg] <;> rfl))
 (hc : c := by (first | exact True.intro | omega | (simp only [zL] <;> omega) | (simp (disch := first | omega | (simp only [zL] <;> omega) | (simp only [push_cast] <;> omega) | fail) only [push_cast, reduceCtorEq, Nat.reduceAdd, Nat.reduceSub, Nat.reduceMul, Nat.reduceEqDiff, Nat.reduceLT, Nat.reduceLeDiff, Nat.reduceMod, Nat.reduceDiv, Int.reduceLE, Int.reduceLT, Int.reduceEq, Int.reduceToNat, Int.reduceAdd, Int.reduceSub, Int.reduceMul, Int.reduceNeg] <;> (try simp only [zL]) <;> omega)))
 (hX : X.app o.dst r = X' := by (simp only [push_cast, reduceCtorEq, Nat.reduceAdd, Nat.reduceEqDiff] <;> rfl))
 (hi : i + 1 = i' := by (simp only [Nat.reduceAdd] <;> rfl)) : wpS Γ P ops rid i (o :: os) X [] (wN ops' false Q) := yFI hg hb hs hc hX hi h
theorem wJ {g : Nat} {want : Bool} {X' : St} {i' : Nat} (h : wpS Γ P ops rid i' os X' [] (wN ops' false Q)) (hg : o.guard = some (g, want) := by rfl)
 (hb : vO (vV ops X g) want = some false := by (simp only [vV, Option.bind_some, push_cast, reduceCtorEq, Nat.reduceAdd, Nat.reduceSub, Nat.reduceMul, Nat.reduceEqDiff, Nat.reduceLT, Nat.reduceLeDiff, Nat.reduceMod, Nat.reduceDiv, Int.reduceLE, Int.reduceLT, Int.reduceEq, Int.reduceToNat, Int.reduceAdd, Int.reduceSub, Int.reduceMul, Int.reduceNeg] <;> rfl))
 (hX : X.app o.dst { val := udf } = X' := by (simp only [push_cast, reduceCtorEq, Nat.reduceAdd, Nat.reduceEqDiff] <;> rfl))
 (hi : i + 1 = i' := by (simp only [Nat.reduceAdd] <;> rfl)) : wpS Γ P ops rid i (o :: os) X [] (wN ops' false Q) := yIa hg hb hX hi h
theorem uP {v : D} {F : List Nm} {c : Prop} {g : Nat} {want b : Bool} {X' : St} {i' : Nat} (h : wpS Γ P ops rid i' os X' [] (wN ops' false Q)) (hg : o.guard = some (g, want) := by rfl)
 (hb : vO (vV ops X g) want = some b := by (simp only [vV, Option.bind_some, push_cast, reduceCtorEq, Nat.reduceAdd, Nat.reduceSub, Nat.reduceMul, Nat.reduceEqDiff, Nat.reduceLT, Nat.reduceLeDiff, Nat.reduceMod, Nat.reduceDiv, Int.reduceLE, Int.reduceLT, Int.reduceEq, Int.reduceToNat, Int.reduceAdd, Int.reduceSub, Int.reduceMul, Int.reduceNeg] <;> rfl))
 (hs : b = true → wP P rid i X o = some ({ val := v, F := F }, c) := by (intro hb; have hb' := hb; (try simp only [zB] at hb'); first | (simp (disch := first | omega | (simp only [zL] <;> omega) | (simp only [push_cast] <;> omega) | fail) only [hb, hb', push_cast, reduceCtorEq, Nat.reduceAdd, Nat.reduceSub, Nat.reduceMul, Nat.reduceEqDiff, Nat.reduceLT, Nat.reduceLeDiff, Nat.reduceMod, Nat.reduceDiv, Int.reduceLE, Int.reduceLT, Int.reduceEq, Int.reduceToNat, Int.reduceAdd, Int.reduceSub, Int.reduceMul, Int.reduceNeg] <;> rfl) | (simp only [hb, push_cast, reduceCtorEq, Nat.reduceAdd, Nat.reduceSub, Nat.reduceMul, Nat.reduceEqDiff, Nat.reduceLT, Nat.reduceLeDiff, Nat.reduceMod, Nat.reduceDiv, Int.reduceLE, Int.reduceLT, Int.reduceEq, Int.reduceToNat, Int.reduceAdd, Int.reduceSub, Int.reduceMul, Int.reduceNeg] <;> rfl) | (simp only [push_cast, reduceCtorEq, Nat.reduceAdd, Nat.reduceSub, Nat.reduceMul, Nat.reduceEqDiff, Nat.reduceLT, Nat.reduceLeDiff, Nat.reduceMod, Nat.reduceDiv, Int.reduceLE, Int.reduceLT, Int.reduceEq, Int.reduceToNat, Int.reduceAdd, Int.reduceSub, Int.reduceMul, Int.reduceNeg] <;> rfl)))
 (hc : b = true → c := by (intro hb'; (try simp only [zB] at hb'); (first | exact True.intro | omega | (simp only [zL] <;> omega) | (simp (disch := first | omega | (simp only [zL] <;> omega) | (simp only [push_cast] <;> omega) | fail) only [push_cast, reduceCtorEq, Nat.reduceAdd, Nat.reduceSub, Nat.reduceMul, Nat.reduceEqDiff, Nat.reduceLT, Nat.reduceLeDiff, Nat.reduceMod, Nat.reduceDiv, Int.reduceLE, Int.reduceLT, Int.reduceEq, Int.reduceToNat, Int.reduceAdd, Int.reduceSub, Int.reduceMul, Int.reduceNeg] <;> (try simp only [zL]) <;> omega))))
 (hX : X.app o.dst { val := if b = true then v else udf } = X' := by (simp only [push_cast, reduceCtorEq, Nat.reduceAdd, Nat.reduceEqDiff] <;> rfl))
 (hi : i + 1 = i' := by (simp only [Nat.reduceAdd] <;> rfl)) : wpS Γ P ops rid i (o :: os) X [] (wN ops' false Q) := s_may0 hg hb hs hc hX hi h
theorem yU {g : Operand} {args : Array Operand} {tys : Array TypeId} {f : FuncId} {caps cargs : List D} {r : D} {ns : List Ob} {X' : St} {i' : Nat} (len : List Nm) (sh : Bool) (hG : Good Γ P f cargs [] r [] ns) (h : wpS Γ P ops rid i' os X' [] (wN ops' false Q)) (hg : o.guard = none := by rfl)
 (ho : o.op = .call { callee := .value g, args := args, argTypes := tys } := by rfl)
 (hs : wP P rid i X o = none := by (simp only [wP, sM]))
 (hf : ev X g = .fn f caps := by (simp (disch := first | omega | (simp only [zL] <;> omega) | (simp only [push_cast] <;> omega) | fail) only [push_cast, reduceCtorEq, Nat.reduceAdd, Nat.reduceSub, Nat.reduceMul, Nat.reduceEqDiff, Nat.reduceLT, Nat.reduceLeDiff, Nat.reduceMod, Nat.reduceDiv, Int.reduceLE, Int.reduceLT, Int.reduceEq, Int.reduceToNat, Int.reduceAdd, Int.reduceSub, Int.reduceMul, Int.reduceNeg] <;> rfl))
 (hk : yQ P f = true := by (simp only [push_cast]))
 (hv : VwL (fun _ => none) X.hp (· ∈ len) cargs (args.toList.map (ev X) ++ caps) := by (first | ((try simp (disch := first | omega | (simp only [zL] <;> omega) | (simp only [push_cast] <;> omega) | fail) only [push_cast, reduceCtorEq, Nat.reduceAdd, Nat.reduceSub, Nat.reduceMul, Nat.reduceEqDiff, Nat.reduceLT, Nat.reduceLeDiff, Nat.reduceMod, Nat.reduceDiv, Int.reduceLE, Int.reduceLT, Int.reduceEq, Int.reduceToNat, Int.reduceAdd, Int.reduceSub, Int.reduceMul, Int.reduceNeg]); (repeat' (first | exact gO | exact yE7 | refine yE8 ?_ ?_ | refine Vw_a ?_)); done) | (simp (disch := first | omega | (simp only [zL] <;> omega) | fail) [-List.map_map, -List.map_drop, -List.map_take, VwL_cons, xM, xY, vN, xV, xW, xU, Vw_agg, xS, xX, xA, VwL_refl_map, yX, xK, xL, wK, xJ, yW, xC, yV, VwTs_app, List.take_of_length_le, srcL, notIn, ObsVw, SrcOk, pOk, Go.Ot.look, resP, resN, ev, evc, mkS, push_cast] <;> (try simp only [zL]) <;> (try omega))))
 (hlex : ∀ m ∈ len, X.hp m ≠ none := by (simp [Go.Ot.look]))
 (hnew : ∀ k, k < ns.length → X.hp (.r rid i k) = none := by (simp [Go.Ot.look]))
 (hsh : sh = false → r.flat = true ∧ (∀ ob ∈ ns, D.flatL ob.cells = true) := by (simp [-List.map_map, -List.map_drop, -List.map_take, D.flat, D.flatL, T.flat, T.flatL, flatL_map_t, push_cast]))
 (hX : X.app o.dst (vM X [] r [] ns rid i sh len []) = X' := by (simp only [push_cast, reduceCtorEq, Nat.reduceAdd, Nat.reduceEqDiff] <;> rfl))
 (hi : i + 1 = i' := by (simp only [Nat.reduceAdd] <;> rfl)) : wpS Γ P ops rid i (o :: os) X [] (wN ops' false Q) := lD hg hs (sN g args tys ho hf hk len hG hv hlex rid i hnew sh hsh) (fun _ => rfl) hX hi h
theorem wT {gi : Nat} {want : Bool} {g : Operand} {args : Array Operand} {tys : Array TypeId} {f : FuncId} {caps cargs : List D} {r : D} {ns : List Ob} {X' : St} {i' : Nat} (len : List Nm) (sh : Bool) (hG : Good Γ P f cargs [] r [] ns) (h : wpS Γ P ops rid i' os X' [] (wN ops' false Q)) (hg : o.guard = some (gi, want) := by rfl)
 (hb : vO (vV ops X gi) want = some true := by (simp only [vV, Option.bind_some, push_cast, reduceCtorEq, Nat.reduceAdd, Nat.reduceSub, Nat.reduceMul, Nat.reduceEqDiff, Nat.reduceLT, Nat.reduceLeDiff, Nat.reduceMod, Nat.reduceDiv, Int.reduceLE, Int.reduceLT, Int.reduceEq, Int.reduceToNat, Int.reduceAdd, Int.reduceSub, Int.reduceMul, Int.reduceNeg] <;> rfl))
 (ho : o.op = .call { callee := .value g, args := args, argTypes := tys } := by rfl)
 (hs : wP P rid i X o = none := by (simp only [wP, sM]))
 (hf : ev X g = .fn f caps := by (simp (disch := first | omega | (simp only [zL] <;> omega) | (simp only [push_cast] <;> omega) | fail) only [push_cast, reduceCtorEq, Nat.reduceAdd, Nat.reduceSub, Nat.reduceMul, Nat.reduceEqDiff, Nat.reduceLT, Nat.reduceLeDiff, Nat.reduceMod, Nat.reduceDiv, Int.reduceLE, Int.reduceLT, Int.reduceEq, Int.reduceToNat, Int.reduceAdd, Int.reduceSub, Int.reduceMul, Int.reduceNeg] <;> rfl))
 (hk : yQ P f = true := by (simp only [push_cast]))
 (hv : VwL (fun _ => none) X.hp (· ∈ len) cargs (args.toList.map (ev X) ++ caps) := by (first | ((try simp (disch := first | omega | (simp only [zL] <;> omega) | (simp only [push_cast] <;> omega) | fail) only [push_cast, reduceCtorEq, Nat.reduceAdd, Nat.reduceSub, Nat.reduceMul, Nat.reduceEqDiff, Nat.reduceLT, Nat.reduceLeDiff, Nat.reduceMod, Nat.reduceDiv, Int.reduceLE, Int.reduceLT, Int.reduceEq, Int.reduceToNat, Int.reduceAdd, Int.reduceSub, Int.reduceMul, Int.reduceNeg]); (repeat' (first | exact gO | exact yE7 | refine yE8 ?_ ?_ | refine Vw_a ?_)); done) | (simp (disch := first | omega | (simp only [zL] <;> omega) | fail) [-List.map_map, -List.map_drop, -List.map_take, VwL_cons, xM, xY, vN, xV, xW, xU, Vw_agg, xS, xX, xA, VwL_refl_map, yX, xK, xL, wK, xJ, yW, xC, yV, VwTs_app, List.take_of_length_le, srcL, notIn, ObsVw, SrcOk, pOk, Go.Ot.look, resP, resN, ev, evc, mkS, push_cast] <;> (try simp only [zL]) <;> (try omega))))
 (hlex : ∀ m ∈ len, X.hp m ≠ none := by (simp [Go.Ot.look]))
 (hnew : ∀ k, k < ns.length → X.hp (.r rid i k) = none := by (simp [Go.Ot.look]))
 (hsh : sh = false → r.flat = true ∧ (∀ ob ∈ ns, D.flatL ob.cells = true) := by (simp [-List.map_map, -List.map_drop, -List.map_take, D.flat, D.flatL, T.flat, T.flatL, flatL_map_t, push_cast]))
 (hX : X.app o.dst (vM X [] r [] ns rid i sh len []) = X' := by (simp only [push_cast, reduceCtorEq, Nat.reduceAdd, Nat.reduceEqDiff] <;> rfl))
 (hi : i + 1 = i' := by (simp only [Nat.reduceAdd] <;> rfl)) : wpS Γ P ops rid i (o :: os) X [] (wN ops' false Q) := qL hg hb hs (sN g args tys ho hf hk len hG hv hlex rid i hnew sh hsh) (fun _ => rfl) hX hi h
theorem yY {r : Rec} {c : Prop} {X' : St} {ms : Meta} {i' : Nat} (h : wpS Γ P ops rid i' os X' (acc ++ [ms]) (wN ops' draw Q)) (hg : o.guard = none := by rfl)
 (hs : wP P rid i X o = some (r, c) := by (simp (disch := first | omega | (simp only [zL] <;> omega) | (simp only [push_cast] <;> omega) | fail) only [push_cast, reduceCtorEq, Nat.reduceAdd, Nat.reduceSub, Nat.reduceMul, Nat.reduceEqDiff, Nat.reduceLT, Nat.reduceLeDiff, Nat.reduceMod, Nat.reduceDiv, Int.reduceLE, Int.reduceLT, Int.reduceEq, Int.reduceToNat, Int.reduceAdd, Int.reduceSub, Int.reduceMul, Int.reduceNeg] <;> rfl))
 (hc : c := by (first | exact True.intro | omega | (simp only [zL] <;> omega) | (simp (disch := first | omega | (simp only [zL] <;> omega) | (simp only [push_cast] <;> omega) | fail) only [push_cast, reduceCtorEq, Nat.reduceAdd, Nat.reduceSub, Nat.reduceMul, Nat.reduceEqDiff, Nat.reduceLT, Nat.reduceLeDiff, Nat.reduceMod, Nat.reduceDiv, Int.reduceLE, Int.reduceLT, Int.reduceEq, Int.reduceToNat, Int.reduceAdd, Int.reduceSub, Int.reduceMul, Int.reduceNeg] <;> (try simp only [zL]) <;> omega)))
 (hX : X.app o.dst r = X' := by (simp only [push_cast, reduceCtorEq, Nat.reduceAdd, Nat.reduceEqDiff] <;> rfl))
 (hm : r.info = ms := by (simp only [Rec.info, push_cast, reduceCtorEq, Nat.reduceAdd, Nat.reduceEqDiff] <;> rfl))
 (hi : i + 1 = i' := by (simp only [Nat.reduceAdd] <;> rfl)) : wpS Γ P ops rid i (o :: os) X acc (wN ops' draw Q) := s_op hg hs hc hX hm hi h
theorem vR {r : Rec} {c : Prop} {g : Nat} {want : Bool} {X' : St} {ms : Meta} {i' : Nat} (h : wpS Γ P ops rid i' os X' (acc ++ [ms]) (wN ops' draw Q)) (hg : o.guard = some (g, want) := by rfl)
 (hb : vO (vV ops X g) want = some true := by (simp only [vV, Option.bind_some, push_cast, reduceCtorEq, Nat.reduceAdd, Nat.reduceSub, Nat.reduceMul, Nat.reduceEqDiff, Nat.reduceLT, Nat.reduceLeDiff, Nat.reduceMod, Nat.reduceDiv, Int.reduceLE, Int.reduceLT, Int.reduceEq, Int.reduceToNat, Int.reduceAdd, Int.reduceSub, Int.reduceMul, Int.reduceNeg] <;> rfl))
 (hs : wP P rid i X o = some (r, c) := by (simp (disch := first | omega | (simp only [zL] <;> omega) | (simp only [push_cast] <;> omega) | fail) only [push_cast, reduceCtorEq, Nat.reduceAdd, Nat.reduceSub, Nat.reduceMul, Nat.reduceEqDiff, Nat.reduceLT, Nat.reduceLeDiff, Nat.reduceMod, Nat.reduceDiv, Int.reduceLE, Int.reduceLT, Int.reduceEq, Int.reduceToNat, Int.reduceAdd, Int.reduceSub, Int.reduceMul, Int.reduceNeg] <;> rfl))
 (hc : c := by (first | exact True.intro | omega | (simp only [zL] <;> omega) | (simp (disch := first | omega | (simp only [zL] <;> omega) | (simp only [push_cast] <;> omega) | fail) only [push_cast, reduceCtorEq, Nat.reduceAdd, Nat.reduceSub, Nat.reduceMul, Nat.reduceEqDiff, Nat.reduceLT, Nat.reduceLeDiff, Nat.reduceMod, Nat.reduceDiv, Int.reduceLE, Int.reduceLT, Int.reduceEq, Int.reduceToNat, Int.reduceAdd, Int.reduceSub, Int.reduceMul, Int.reduceNeg] <;> (try simp only [zL]) <;> omega)))
 (hX : X.app o.dst r = X' := by (simp only [push_cast, reduceCtorEq, Nat.reduceAdd, Nat.reduceEqDiff] <;> rfl))
 (hm : r.info = ms := by (simp only [Rec.info, push_cast, reduceCtorEq, Nat.reduceAdd, Nat.reduceEqDiff] <;> rfl))
 (hi : i + 1 = i' := by (simp only [Nat.reduceAdd] <;> rfl)) : wpS Γ P ops rid i (o :: os) X acc (wN ops' draw Q) := yDp hg hb hs hc hX hm hi h
theorem yCZ {g : Nat} {want : Bool} {X' : St} {i' : Nat} (h : wpS Γ P ops rid i' os X' (acc ++ [⟨[], [], false⟩]) (wN ops' draw Q)) (hg : o.guard = some (g, want) := by rfl)
 (hb : vO (vV ops X g) want = some false := by (simp only [vV, Option.bind_some, push_cast, reduceCtorEq, Nat.reduceAdd, Nat.reduceSub, Nat.reduceMul, Nat.reduceEqDiff, Nat.reduceLT, Nat.reduceLeDiff, Nat.reduceMod, Nat.reduceDiv, Int.reduceLE, Int.reduceLT, Int.reduceEq, Int.reduceToNat, Int.reduceAdd, Int.reduceSub, Int.reduceMul, Int.reduceNeg] <;> rfl))
 (hX : X.app o.dst { val := udf } = X' := by (simp only [push_cast, reduceCtorEq, Nat.reduceAdd, Nat.reduceEqDiff] <;> rfl))
 (hi : i + 1 = i' := by (simp only [Nat.reduceAdd] <;> rfl)) : wpS Γ P ops rid i (o :: os) X acc (wN ops' draw Q) := yHh hg hb hX hi h
theorem yZ {g : Operand} {args : Array Operand} {tys : Array TypeId} {f : FuncId} {caps cargs : List D} {r : D} {ns : List Ob} {X' : St} {ms : Meta} {i' : Nat} (len : List Nm) (sh : Bool) (hG : Good Γ P f cargs [] r [] ns) (h : wpS Γ P ops rid i' os X' (acc ++ [ms]) (wN ops' draw Q)) (hg : o.guard = none := by rfl)
 (ho : o.op = .call { callee := .value g, args := args, argTypes := tys } := by rfl)
 (hs : wP P rid i X o = none := by (simp only [wP, sM]))
 (hf : ev X g = .fn f caps := by (simp (disch := first | omega | (simp only [zL] <;> omega) | (simp only [push_cast] <;> omega) | fail) only [push_cast, reduceCtorEq, Nat.reduceAdd, Nat.reduceSub, Nat.reduceMul, Nat.reduceEqDiff, Nat.reduceLT, Nat.reduceLeDiff, Nat.reduceMod, Nat.reduceDiv, Int.reduceLE, Int.reduceLT, Int.reduceEq, Int.reduceToNat, Int.reduceAdd, Int.reduceSub, Int.reduceMul, Int.reduceNeg] <;> rfl))
 (hk : yQ P f = true := by (simp only [push_cast]))
 (hv : VwL (fun _ => none) X.hp (· ∈ len) cargs (args.toList.map (ev X) ++ caps) := by (first | ((try simp (disch := first | omega | (simp only [zL] <;> omega) | (simp only [push_cast] <;> omega) | fail) only [push_cast, reduceCtorEq, Nat.reduceAdd, Nat.reduceSub, Nat.reduceMul, Nat.reduceEqDiff, Nat.reduceLT, Nat.reduceLeDiff, Nat.reduceMod, Nat.reduceDiv, Int.reduceLE, Int.reduceLT, Int.reduceEq, Int.reduceToNat, Int.reduceAdd, Int.reduceSub, Int.reduceMul, Int.reduceNeg]); (repeat' (first | exact gO | exact yE7 | refine yE8 ?_ ?_ | refine Vw_a ?_)); done) | (simp (disch := first | omega | (simp only [zL] <;> omega) | fail) [-List.map_map, -List.map_drop, -List.map_take, VwL_cons, xM, xY, vN, xV, xW, xU, Vw_agg, xS, xX, xA, VwL_refl_map, yX, xK, xL, wK, xJ, yW, xC, yV, VwTs_app, List.take_of_length_le, srcL, notIn, ObsVw, SrcOk, pOk, Go.Ot.look, resP, resN, ev, evc, mkS, push_cast] <;> (try simp only [zL]) <;> (try omega))))
 (hlex : ∀ m ∈ len, X.hp m ≠ none := by (simp [Go.Ot.look]))
 (hnew : ∀ k, k < ns.length → X.hp (.r rid i k) = none := by (simp [Go.Ot.look]))
 (hsh : sh = false → r.flat = true ∧ (∀ ob ∈ ns, D.flatL ob.cells = true) := by (simp [-List.map_map, -List.map_drop, -List.map_take, D.flat, D.flatL, T.flat, T.flatL, flatL_map_t, push_cast]))
 (hX : X.app o.dst (vM X [] r [] ns rid i sh len []) = X' := by (simp only [push_cast, reduceCtorEq, Nat.reduceAdd, Nat.reduceEqDiff] <;> rfl))
 (hm : (vM X [] r [] ns rid i sh len []).info = ms := by (simp only [Rec.info, push_cast, reduceCtorEq, Nat.reduceAdd, Nat.reduceEqDiff] <;> rfl))
 (hi : i + 1 = i' := by (simp only [Nat.reduceAdd] <;> rfl)) : wpS Γ P ops rid i (o :: os) X acc (wN ops' draw Q) := s_by hg hs (sN g args tys ho hf hk len hG hv hlex rid i hnew sh hsh) (fun _ => rfl) hX hm hi h
theorem sW {gi : Nat} {want : Bool} {g : Operand} {args : Array Operand} {tys : Array TypeId} {f : FuncId} {caps cargs : List D} {r : D} {ns : List Ob} {X' : St} {ms : Meta} {i' : Nat} (len : List Nm) (sh : Bool) (hG : Good Γ P f cargs [] r [] ns) (h : wpS Γ P ops rid i' os X' (acc ++ [ms]) (wN ops' draw Q)) (hg : o.guard = some (gi, want) := by rfl)
 (hb : vO (vV ops X gi) want = some true := by (simp only [vV, Option.bind_some, push_cast, reduceCtorEq, Nat.reduceAdd, Nat.reduceSub, Nat.reduceMul, Nat.reduceEqDiff, Nat.reduceLT, Nat.reduceLeDiff, Nat.reduceMod, Nat.reduceDiv, Int.reduceLE, Int.reduceLT, Int.reduceEq, Int.reduceToNat, Int.reduceAdd, Int.reduceSub, Int.reduceMul, Int.reduceNeg] <;> rfl))
 (ho : o.op = .call { callee := .value g, args := args, argTypes := tys } := by rfl)
 (hs : wP P rid i X o = none := by (simp only [wP, sM]))
 (hf : ev X g = .fn f caps := by (simp (disch := first | omega | (simp only [zL] <;> omega) | (simp only [push_cast] <;> omega) | fail) only [push_cast, reduceCtorEq, Nat.reduceAdd, Nat.reduceSub, Nat.reduceMul, Nat.reduceEqDiff, Nat.reduceLT, Nat.reduceLeDiff, Nat.reduceMod, Nat.reduceDiv, Int.reduceLE, Int.reduceLT, Int.reduceEq, Int.reduceToNat, Int.reduceAdd, Int.reduceSub, Int.reduceMul, Int.reduceNeg] <;> rfl))
 (hk : yQ P f = true := by (simp only [push_cast]))
 (hv : VwL (fun _ => none) X.hp (· ∈ len) cargs (args.toList.map (ev X) ++ caps) := by (first | ((try simp (disch := first | omega | (simp only [zL] <;> omega) | (simp only [push_cast] <;> omega) | fail) only [push_cast, reduceCtorEq, Nat.reduceAdd, Nat.reduceSub, Nat.reduceMul, Nat.reduceEqDiff, Nat.reduceLT, Nat.reduceLeDiff, Nat.reduceMod, Nat.reduceDiv, Int.reduceLE, Int.reduceLT, Int.reduceEq, Int.reduceToNat, Int.reduceAdd, Int.reduceSub, Int.reduceMul, Int.reduceNeg]); (repeat' (first | exact gO | exact yE7 | refine yE8 ?_ ?_ | refine Vw_a ?_)); done) | (simp (disch := first | omega | (simp only [zL] <;> omega) | fail) [-List.map_map, -List.map_drop, -List.map_take, VwL_cons, xM, xY, vN, xV, xW, xU, Vw_agg, xS, xX, xA, VwL_refl_map, yX, xK, xL, wK, xJ, yW, xC, yV, VwTs_app, List.take_of_length_le, srcL, notIn, ObsVw, SrcOk, pOk, Go.Ot.look, resP, resN, ev, evc, mkS, push_cast] <;> (try simp only [zL]) <;> (try omega))))
 (hlex : ∀ m ∈ len, X.hp m ≠ none := by (simp [Go.Ot.look]))
 (hnew : ∀ k, k < ns.length → X.hp (.r rid i k) = none := by (simp [Go.Ot.look]))
 (hsh : sh = false → r.flat = true ∧ (∀ ob ∈ ns, D.flatL ob.cells = true) := by (simp [-List.map_map, -List.map_drop, -List.map_take, D.flat, D.flatL, T.flat, T.flatL, flatL_map_t, push_cast]))
 (hX : X.app o.dst (vM X [] r [] ns rid i sh len []) = X' := by (simp only [push_cast, reduceCtorEq, Nat.reduceAdd, Nat.reduceEqDiff] <;> rfl))
 (hm : (vM X [] r [] ns rid i sh len []).info = ms := by (simp only [Rec.info, push_cast, reduceCtorEq, Nat.reduceAdd, Nat.reduceEqDiff] <;> rfl))
 (hi : i + 1 = i' := by (simp only [Nat.reduceAdd] <;> rfl)) : wpS Γ P ops rid i (o :: os) X acc (wN ops' draw Q) := yDq hg hb hs (sN g args tys ho hf hk len hG hv hlex rid i hnew sh hsh) (fun _ => rfl) hX hm hi h
theorem vL {c : Operand} {x y : Code} {b : Bool} (h : b = true → wpK Γ P x Q X) (h' : b = false → wpK Γ P y Q X) (hb : ev X c = .t (.v (.bool b)) := by (simp only [push_cast, reduceCtorEq, Nat.reduceAdd, Nat.reduceSub, Nat.reduceMul, Nat.reduceEqDiff, Nat.reduceLT, Nat.reduceLeDiff, Nat.reduceMod, Nat.reduceDiv, Int.reduceLE, Int.reduceLT, Int.reduceEq, Int.reduceToNat, Int.reduceAdd, Int.reduceSub, Int.reduceMul, Int.reduceNeg] <;> rfl)) : wpK Γ P (.cond c x y) Q X := ⟨b, hb, h, h'⟩
theorem xF {c : Operand} {x y : Code} (h : wpK Γ P x Q X) (hb : ev X c = .t (.v (.bool true)) := by (simp only [push_cast, reduceCtorEq, Nat.reduceAdd, Nat.reduceSub, Nat.reduceMul, Nat.reduceEqDiff, Nat.reduceLT, Nat.reduceLeDiff, Nat.reduceMod, Nat.reduceDiv, Int.reduceLE, Int.reduceLT, Int.reduceEq, Int.reduceToNat, Int.reduceAdd, Int.reduceSub, Int.reduceMul, Int.reduceNeg] <;> rfl)) : wpK Γ P (.cond c x y) Q X := k_true hb h
theorem yJ {c : Operand} {x y : Code} (h : wpK Γ P y Q X) (hb : ev X c = .t (.v (.bool false)) := by (simp only [push_cast, reduceCtorEq, Nat.reduceAdd, Nat.reduceSub, Nat.reduceMul, Nat.reduceEqDiff, Nat.reduceLT, Nat.reduceLeDiff, Nat.reduceMod, Nat.reduceDiv, Int.reduceLE, Int.reduceLT, Int.reduceEq, Int.reduceToNat, Int.reduceAdd, Int.reduceSub, Int.reduceMul, Int.reduceNeg] <;> rfl)) : wpK Γ P (.cond c x y) Q X := yIO hb h
theorem yP {fn : Func} {sl : List D} {LZ : List (Nm × Ob)} {r d : D} {ps' : List (Option Ob)} {ns : List Ob} {rv : List ResultVar} (S : List (Nm × Nm)) (hr : fn.results.toList = rv) (h1 : Vw (srcL S) (look LZ) (notIn S) r d) (h2 : ObsVw S LZ (resP 0 ps' ++ resN 0 ns)) (h3 : SrcOk (resP 0 ps' ++ resN 0 ns) S)
 (h : resD P ⟨sl, look LZ⟩ rv = some d := by (simp (disch := first | omega | (simp only [zL] <;> omega) | (simp only [push_cast] <;> omega) | fail) only [resD, eC, aN, mJ, Option.bind_some, push_cast, reduceCtorEq, Nat.reduceAdd, Nat.reduceSub, Nat.reduceMul, Nat.reduceEqDiff, Nat.reduceLT, Nat.reduceLeDiff, Nat.reduceMod, Nat.reduceDiv, Int.reduceLE, Int.reduceLT, Int.reduceEq, Int.reduceToNat, Int.reduceAdd, Int.reduceSub, Int.reduceMul, Int.reduceNeg] <;> rfl)) : RetOk P fn ⟨sl, look LZ⟩ r ps' ns := yHl S (by rw [hr]; exact h) h1 h2 h3
theorem a_rz {fn : Func} {sl : List D} {LZ : List (Nm × Ob)} {r d : D} {ps' : List (Option Ob)} {ns : List Ob} {rv : List ResultVar} (S : List (Nm × Nm)) (hr : fn.results.toList = rv)
 (h : resD P ⟨sl, look LZ⟩ rv = some d := by (simp (disch := first | omega | (simp only [zL] <;> omega) | (simp only [push_cast] <;> omega) | fail) only [resD, eC, aN, mJ, Option.bind_some, push_cast, reduceCtorEq, Nat.reduceAdd, Nat.reduceSub, Nat.reduceMul, Nat.reduceEqDiff, Nat.reduceLT, Nat.reduceLeDiff, Nat.reduceMod, Nat.reduceDiv, Int.reduceLE, Int.reduceLT, Int.reduceEq, Int.reduceToNat, Int.reduceAdd, Int.reduceSub, Int.reduceMul, Int.reduceNeg] <;> rfl))
 (h1 : Vw (srcL S) (look LZ) (notIn S) r d := by simp [-List.map_set, -List.map_replicate, -List.reduceReplicate, -List.map_map, -List.map_drop, -List.map_take]) (h2 : ObsVw S LZ (resP 0 ps' ++ resN 0 ns) := by simp [-List.map_set, -List.map_replicate, -List.reduceReplicate, -List.map_map, -List.map_drop, -List.map_take]) (h3 : SrcOk (resP 0 ps' ++ resN 0 ns) S := by simp [-List.map_set, -List.map_replicate, -List.reduceReplicate, -List.map_map, -List.map_drop, -List.map_take]) : RetOk P fn ⟨sl, look LZ⟩ r ps' ns := yHl S (by rw [hr]; exact h) h1 h2 h3
end
end Go.Ot

namespace Go.Ot
theorem bits_u8 : IntKind.bits .u8 = 8 := rfl
theorem bits_u16 : IntKind.bits .u16 = 16 := rfl
theorem bits_u32 : IntKind.bits .u32 = 32 := rfl
theorem bits_u64 : IntKind.bits .u64 = 64 := rfl
theorem bits_i64 : IntKind.bits .i64 = 64 := rfl
theorem signed_u8 : IntKind.signed .u8 = false := rfl
theorem signed_u32 : IntKind.signed .u32 = false := rfl
theorem signed_u64 : IntKind.signed .u64 = false := rfl
attribute [push_cast] bits_u8 bits_u16 bits_u32 bits_u64 bits_i64 signed_u8 signed_u32 signed_u64
theorem wu8 (n : Nat) : IntKind.u8.wrap (n : Int) = ((n % 2 ^ 8 : Nat) : Int) := by simp [IntKind.wrap, IntKind.bits, IntKind.signed]
theorem wi8 (n : Int) : IntKind.u8.wrap n = ((UInt8.ofInt n).toNat : Int) := by
 have h : IntKind.u8.wrap n = n % 2 ^ 8 := by simp [IntKind.wrap, IntKind.bits, IntKind.signed]
 rw [h, UInt8.ofInt, UInt8.toNat_ofNat']
 have := Int.emod_nonneg n (show (2 : Int) ^ 8 ≠ 0 by decide)
 have h2 := Int.emod_lt_of_pos n (show (0 : Int) < 2 ^ 8 by decide)
 have h3 : (n % 2 ^ 8).toNat < 2 ^ 8 := by omega
 rw [Nat.mod_eq_of_lt h3]; omega
def sl8 (x : UInt8) (k : Nat) : UInt8 := UInt8.ofNat (x.toNat <<< k)
def sr8 (x : UInt8) (k : Nat) : UInt8 := UInt8.ofNat (x.toNat >>> k)
section
variable (x y : UInt8)
theorem ofI8 : BitVec.ofInt (IntKind.bits .u8) (x.toNat : Int) = x.toBitVec := by
 rw [BitVec.ofInt_natCast]
 exact BitVec.ofNat_toNat _ _ ▸ (by simp [IntKind.bits])
theorem add8 : IntKind.u8.wrap ((x.toNat : Int) + (y.toNat : Int)) = ((x + y).toNat : Int) := by
 rw [show (x.toNat : Int) + (y.toNat : Int) = ((x.toNat + y.toNat : Nat) : Int) from by omega, wu8, UInt8.toNat_add]
theorem mul8 : IntKind.u8.wrap ((x.toNat : Int) * (y.toNat : Int)) = ((x * y).toNat : Int) := by
 rw [show (x.toNat : Int) * (y.toNat : Int) = ((x.toNat * y.toNat : Nat) : Int) from by simp, wu8, UInt8.toNat_mul]
theorem xor8 : bits .xor .u8 (x.toNat : Int) (y.toNat : Int) = ((x ^^^ y).toNat : Int) := by
 simp only [bits, ofI8]
 rw [wu8]
 norm_cast
 exact Nat.mod_eq_of_lt (UInt8.toNat_lt (x ^^^ y))
theorem and8 : bits .and .u8 (x.toNat : Int) (y.toNat : Int) = ((x &&& y).toNat : Int) := by
 simp only [bits, ofI8]
 rw [wu8]
 norm_cast
 exact Nat.mod_eq_of_lt (UInt8.toNat_lt (x &&& y))
theorem or8 : bits .or .u8 (x.toNat : Int) (y.toNat : Int) = ((x ||| y).toNat : Int) := by
 simp only [bits, ofI8]
 rw [wu8]
 norm_cast
 exact Nat.mod_eq_of_lt (UInt8.toNat_lt (x ||| y))
theorem mul8l (n : Nat) : IntKind.u8.wrap ((x.toNat : Int) * (no_index (OfNat.ofNat n) : Int)) = ((x * (OfNat.ofNat n : UInt8)).toNat : Int) := by
 rw [show (x.toNat : Int) * (OfNat.ofNat n : Int) = ((x.toNat * n : Nat) : Int) from by simp; rfl, wu8, UInt8.toNat_mul, show (OfNat.ofNat n : UInt8) = UInt8.ofNat n from rfl, UInt8.toNat_ofNat']
 simp
theorem not8 : bits .xor .u8 (IntKind.max .u8) (x.toNat : Int) = ((~~~x).toNat : Int) := by
 have : IntKind.max .u8 = (((~~~(0 : UInt8)) : UInt8).toNat : Int) := by decide
 rw [this, xor8]
 congr 2
theorem shl8 (k : Nat) : IntKind.u8.wrap ((x.toNat : Int) * 2 ^ min k 8) = ((sl8 x k).toNat : Int) := by
 rw [show (x.toNat : Int) * 2 ^ min k 8 = ((x.toNat * 2 ^ min k 8 : Nat) : Int) from by simp, wu8, sl8, UInt8.toNat_ofNat', Nat.shiftLeft_eq]
 by_cases h : k ≤ 8
 ·rw [Nat.min_eq_left h]
 ·rw [Nat.min_eq_right (by omega), show k = 8 + (k - 8) from by omega, Nat.pow_add, ← Nat.mul_assoc, Nat.mul_mod_left, Nat.mul_right_comm, Nat.mul_mod_left]
theorem shr8 (k : Nat) : (x.toNat : Int) / 2 ^ min k 8 = ((sr8 x k).toNat : Int) := by
 rw [show (x.toNat : Int) / 2 ^ min k 8 = ((x.toNat / 2 ^ min k 8 : Nat) : Int) from by simp, sr8, UInt8.toNat_ofNat', Nat.shiftRight_eq_div_pow]
 have hx := UInt8.toNat_lt x
 by_cases h : k ≤ 8
 ·rw [Nat.min_eq_left h, Nat.mod_eq_of_lt (Nat.lt_of_le_of_lt (Nat.div_le_self _ _) hx)]
 ·have h2 : x.toNat < 2 ^ k := Nat.lt_of_lt_of_le hx (Nat.pow_le_pow_right (by decide) (by omega))
  rw [Nat.min_eq_right (by omega), Nat.div_eq_of_lt hx, Nat.div_eq_of_lt h2]
end
attribute [push_cast] mul8l
attribute [push_cast] add8 mul8 xor8 and8 or8 not8 shl8 shr8
theorem yFl (n : Nat) : IntKind.u32.wrap (n : Int) = ((n % 2 ^ 32 : Nat) : Int) := by simp [IntKind.wrap, IntKind.bits, IntKind.signed]
theorem wi32 (n : Int) : IntKind.u32.wrap n = ((UInt32.ofInt n).toNat : Int) := by
 have h : IntKind.u32.wrap n = n % 2 ^ 32 := by simp [IntKind.wrap, IntKind.bits, IntKind.signed]
 rw [h, UInt32.ofInt, UInt32.toNat_ofNat']
 have := Int.emod_nonneg n (show (2 : Int) ^ 32 ≠ 0 by decide)
 have h2 := Int.emod_lt_of_pos n (show (0 : Int) < 2 ^ 32 by decide)
 have h3 : (n % 2 ^ 32).toNat < 2 ^ 32 := by omega
 rw [Nat.mod_eq_of_lt h3]; omega
def jN (x : UInt32) (k : Nat) : UInt32 := UInt32.ofNat (x.toNat <<< k)
def cX (x : UInt32) (k : Nat) : UInt32 := UInt32.ofNat (x.toNat >>> k)
section
variable (x y : UInt32)
theorem ofI32 : BitVec.ofInt (IntKind.bits .u32) (x.toNat : Int) = x.toBitVec := by
 rw [BitVec.ofInt_natCast]
 exact BitVec.ofNat_toNat _ _ ▸ (by simp [IntKind.bits])
theorem add32 : IntKind.u32.wrap ((x.toNat : Int) + (y.toNat : Int)) = ((x + y).toNat : Int) := by
 rw [show (x.toNat : Int) + (y.toNat : Int) = ((x.toNat + y.toNat : Nat) : Int) from by omega, yFl, UInt32.toNat_add]
theorem mul32 : IntKind.u32.wrap ((x.toNat : Int) * (y.toNat : Int)) = ((x * y).toNat : Int) := by
 rw [show (x.toNat : Int) * (y.toNat : Int) = ((x.toNat * y.toNat : Nat) : Int) from by simp, yFl, UInt32.toNat_mul]
theorem xor32 : bits .xor .u32 (x.toNat : Int) (y.toNat : Int) = ((x ^^^ y).toNat : Int) := by
 simp only [bits, ofI32]
 rw [yFl]
 norm_cast
 exact Nat.mod_eq_of_lt (UInt32.toNat_lt (x ^^^ y))
theorem and32 : bits .and .u32 (x.toNat : Int) (y.toNat : Int) = ((x &&& y).toNat : Int) := by
 simp only [bits, ofI32]
 rw [yFl]
 norm_cast
 exact Nat.mod_eq_of_lt (UInt32.toNat_lt (x &&& y))
theorem or32 : bits .or .u32 (x.toNat : Int) (y.toNat : Int) = ((x ||| y).toNat : Int) := by
 simp only [bits, ofI32]
 rw [yFl]
 norm_cast
 exact Nat.mod_eq_of_lt (UInt32.toNat_lt (x ||| y))
theorem mul32l (n : Nat) : IntKind.u32.wrap ((x.toNat : Int) * (no_index (OfNat.ofNat n) : Int)) = ((x * (OfNat.ofNat n : UInt32)).toNat : Int) := by
 rw [show (x.toNat : Int) * (OfNat.ofNat n : Int) = ((x.toNat * n : Nat) : Int) from by simp; rfl, yFl, UInt32.toNat_mul, show (OfNat.ofNat n : UInt32) = UInt32.ofNat n from rfl, UInt32.toNat_ofNat']
 simp
theorem not32 : bits .xor .u32 (IntKind.max .u32) (x.toNat : Int) = ((~~~x).toNat : Int) := by
 have : IntKind.max .u32 = (((~~~(0 : UInt32)) : UInt32).toNat : Int) := by decide
 rw [this, xor32]
 congr 2
theorem shl32 (k : Nat) : IntKind.u32.wrap ((x.toNat : Int) * 2 ^ min k 32) = ((jN x k).toNat : Int) := by
 rw [show (x.toNat : Int) * 2 ^ min k 32 = ((x.toNat * 2 ^ min k 32 : Nat) : Int) from by simp, yFl, jN, UInt32.toNat_ofNat', Nat.shiftLeft_eq]
 by_cases h : k ≤ 32
 ·rw [Nat.min_eq_left h]
 ·rw [Nat.min_eq_right (by omega), show k = 32 + (k - 32) from by omega, Nat.pow_add, ← Nat.mul_assoc, Nat.mul_mod_left, Nat.mul_right_comm, Nat.mul_mod_left]
theorem shr32 (k : Nat) : (x.toNat : Int) / 2 ^ min k 32 = ((cX x k).toNat : Int) := by
 rw [show (x.toNat : Int) / 2 ^ min k 32 = ((x.toNat / 2 ^ min k 32 : Nat) : Int) from by simp, cX, UInt32.toNat_ofNat', Nat.shiftRight_eq_div_pow]
 have hx := UInt32.toNat_lt x
 by_cases h : k ≤ 32
 ·rw [Nat.min_eq_left h, Nat.mod_eq_of_lt (Nat.lt_of_le_of_lt (Nat.div_le_self _ _) hx)]
 ·have h2 : x.toNat < 2 ^ k := Nat.lt_of_lt_of_le hx (Nat.pow_le_pow_right (by decide) (by omega))
  rw [Nat.min_eq_right (by omega), Nat.div_eq_of_lt hx, Nat.div_eq_of_lt h2]
end
attribute [push_cast] mul32l
attribute [push_cast] add32 mul32 xor32 and32 or32 not32 shl32 shr32
theorem yFk (n : Nat) : IntKind.u64.wrap (n : Int) = ((n % 2 ^ 64 : Nat) : Int) := by simp [IntKind.wrap, IntKind.bits, IntKind.signed]
theorem wi64 (n : Int) : IntKind.u64.wrap n = ((UInt64.ofInt n).toNat : Int) := by
 have h : IntKind.u64.wrap n = n % 2 ^ 64 := by simp [IntKind.wrap, IntKind.bits, IntKind.signed]
 rw [h, UInt64.ofInt, UInt64.toNat_ofNat']
 have := Int.emod_nonneg n (show (2 : Int) ^ 64 ≠ 0 by decide)
 have h2 := Int.emod_lt_of_pos n (show (0 : Int) < 2 ^ 64 by decide)
 have h3 : (n % 2 ^ 64).toNat < 2 ^ 64 := by omega
 rw [Nat.mod_eq_of_lt h3]; omega
def sl64 (x : UInt64) (k : Nat) : UInt64 := UInt64.ofNat (x.toNat <<< k)
def sr64 (x : UInt64) (k : Nat) : UInt64 := UInt64.ofNat (x.toNat >>> k)
section
variable (x y : UInt64)
theorem ofI64 : BitVec.ofInt (IntKind.bits .u64) (x.toNat : Int) = x.toBitVec := by
 rw [BitVec.ofInt_natCast]
 exact BitVec.ofNat_toNat _ _ ▸ (by simp [IntKind.bits])
theorem add64 : IntKind.u64.wrap ((x.toNat : Int) + (y.toNat : Int)) = ((x + y).toNat : Int) := by
 rw [show (x.toNat : Int) + (y.toNat : Int) = ((x.toNat + y.toNat : Nat) : Int) from by omega, yFk, UInt64.toNat_add]
theorem mul64 : IntKind.u64.wrap ((x.toNat : Int) * (y.toNat : Int)) = ((x * y).toNat : Int) := by
 rw [show (x.toNat : Int) * (y.toNat : Int) = ((x.toNat * y.toNat : Nat) : Int) from by simp, yFk, UInt64.toNat_mul]
theorem xor64 : bits .xor .u64 (x.toNat : Int) (y.toNat : Int) = ((x ^^^ y).toNat : Int) := by
 simp only [bits, ofI64]
 rw [yFk]
 norm_cast
 exact Nat.mod_eq_of_lt (UInt64.toNat_lt (x ^^^ y))
theorem and64 : bits .and .u64 (x.toNat : Int) (y.toNat : Int) = ((x &&& y).toNat : Int) := by
 simp only [bits, ofI64]
 rw [yFk]
 norm_cast
 exact Nat.mod_eq_of_lt (UInt64.toNat_lt (x &&& y))
theorem or64 : bits .or .u64 (x.toNat : Int) (y.toNat : Int) = ((x ||| y).toNat : Int) := by
 simp only [bits, ofI64]
 rw [yFk]
 norm_cast
 exact Nat.mod_eq_of_lt (UInt64.toNat_lt (x ||| y))
theorem mul64l (n : Nat) : IntKind.u64.wrap ((x.toNat : Int) * (no_index (OfNat.ofNat n) : Int)) = ((x * (OfNat.ofNat n : UInt64)).toNat : Int) := by
 rw [show (x.toNat : Int) * (OfNat.ofNat n : Int) = ((x.toNat * n : Nat) : Int) from by simp; rfl, yFk, UInt64.toNat_mul, show (OfNat.ofNat n : UInt64) = UInt64.ofNat n from rfl, UInt64.toNat_ofNat']
 simp
theorem not64 : bits .xor .u64 (IntKind.max .u64) (x.toNat : Int) = ((~~~x).toNat : Int) := by
 have : IntKind.max .u64 = (((~~~(0 : UInt64)) : UInt64).toNat : Int) := by decide
 rw [this, xor64]
 congr 2
theorem shl64 (k : Nat) : IntKind.u64.wrap ((x.toNat : Int) * 2 ^ min k 64) = ((sl64 x k).toNat : Int) := by
 rw [show (x.toNat : Int) * 2 ^ min k 64 = ((x.toNat * 2 ^ min k 64 : Nat) : Int) from by simp, yFk, sl64, UInt64.toNat_ofNat', Nat.shiftLeft_eq]
 by_cases h : k ≤ 64
 ·rw [Nat.min_eq_left h]
 ·rw [Nat.min_eq_right (by omega), show k = 64 + (k - 64) from by omega, Nat.pow_add, ← Nat.mul_assoc, Nat.mul_mod_left, Nat.mul_right_comm, Nat.mul_mod_left]
theorem shr64 (k : Nat) : (x.toNat : Int) / 2 ^ min k 64 = ((sr64 x k).toNat : Int) := by
 rw [show (x.toNat : Int) / 2 ^ min k 64 = ((x.toNat / 2 ^ min k 64 : Nat) : Int) from by simp, sr64, UInt64.toNat_ofNat', Nat.shiftRight_eq_div_pow]
 have hx := UInt64.toNat_lt x
 by_cases h : k ≤ 64
 ·rw [Nat.min_eq_left h, Nat.mod_eq_of_lt (Nat.lt_of_le_of_lt (Nat.div_le_self _ _) hx)]
 ·have h2 : x.toNat < 2 ^ k := Nat.lt_of_lt_of_le hx (Nat.pow_le_pow_right (by decide) (by omega))
  rw [Nat.min_eq_right (by omega), Nat.div_eq_of_lt hx, Nat.div_eq_of_lt h2]
end
attribute [push_cast] mul64l
attribute [push_cast] add64 mul64 xor64 and64 or64 not64 shl64 shr64
theorem up8_32 (x : UInt8) : IntKind.u32.wrap (x.toNat : Int) = (x.toUInt32.toNat : Int) := by
 rw [yFl, UInt8.toNat_toUInt32]
 exact congrArg _ (Nat.mod_eq_of_lt (Nat.lt_of_lt_of_le (UInt8.toNat_lt x) (by decide)))
theorem up8_64 (x : UInt8) : IntKind.u64.wrap (x.toNat : Int) = (x.toUInt64.toNat : Int) := by
 rw [yFk, UInt8.toNat_toUInt64]
 exact congrArg _ (Nat.mod_eq_of_lt (Nat.lt_of_lt_of_le (UInt8.toNat_lt x) (by decide)))
theorem yHL (x : UInt32) : IntKind.u64.wrap (x.toNat : Int) = (x.toUInt64.toNat : Int) := by
 rw [yFk, UInt32.toNat_toUInt64]
 exact congrArg _ (Nat.mod_eq_of_lt (Nat.lt_of_lt_of_le (UInt32.toNat_lt x) (by decide)))
theorem dn32_8 (x : UInt32) : IntKind.u8.wrap (x.toNat : Int) = (x.toUInt8.toNat : Int) := by
 rw [wu8, UInt32.toNat_toUInt8]
theorem dn64_8 (x : UInt64) : IntKind.u8.wrap (x.toNat : Int) = (x.toUInt8.toNat : Int) := by
 rw [wu8, UInt64.toNat_toUInt8]
theorem yJc (x : UInt64) : IntKind.u32.wrap (x.toNat : Int) = (x.toUInt32.toNat : Int) := by
 rw [yFl, UInt64.toNat_toUInt32]
attribute [push_cast] up8_32 up8_64 yHL dn32_8 dn64_8 yJc
end Go.Ot

namespace Go.Ot
def num (n : Int) : T := .v (.int .i64 n)
def bol (b : Bool) : T := .v (.bool b)
def txt (l : List UInt8) : T := .v (.string (S l))
def w8 (x : UInt8) : T := .v (.int .u8 x.toNat)
def w16 (x : UInt16) : T := .v (.int .u16 x.toNat)
def w32 (x : UInt32) : T := .v (.int .u32 x.toNat)
def w64 (x : UInt64) : T := .v (.int .u64 x.toNat)
def lst {α : Type} (f : α → T) (l : List α) : T := .sl l.length (l.map f)
def cls {α : Type} (f : α → T) (l : List α) : List D := (l.map f).map .t
def xZ {α : Type} (ty : TypeId) (f : α → T) (l : List α) : Ob := ⟨cls f l, ty, true, true⟩
def xR (ty : TypeId) (cs : List D) : Ob := ⟨cs, ty, false, true⟩
def setBad : List D → List Nat → List D
 | sl, [] => sl
 | sl, s :: r => setBad (sl.set s .bad) r
theorem yCh (sl : List D) : setBad sl [] = sl := rfl
theorem yAt (sl : List D) (s : Nat) (r : List Nat) : setBad sl (s :: r) = setBad (sl.set s .bad) r := rfl
theorem yCj (sl : List D) : setAll sl [] = sl := rfl
theorem yAu (sl : List D) (s : Nat) (d : D) (r : List (Nat × D)) : setAll sl ((s, d) :: r) = setAll (sl.set s d) r := rfl
attribute [push_cast] num bol txt w8 w16 w32 w64 lst cls xZ xR yCh yAt yCj yAu
section
variable {α : Type} {f : α → T} {l : List α} {i n : Nat}
theorem cls_len : ((l.map f).map D.t).length = l.length := by simp
theorem cls_take : ((l.map f).map D.t).take n = ((l.take n).map f).map D.t := by simp
theorem cls_drop : ((l.map f).map D.t).drop n = ((l.drop n).map f).map D.t := by simp
theorem yJi [Inhabited α] (h : i < l.length) : ((l.map f).map D.t).getD i .bad = .t (f (l.getD i default)) := by
 simp [List.getD_eq_getElem?_getD, List.getElem?_eq_getElem h]
theorem yBY [Inhabited α] (h : i < l.length) : (((l.drop i).map f).map D.t).headD .bad = .t (f (l.getD i default)) := by
 rw [List.drop_eq_getElem_cons h]
 simp only [List.map_cons, List.headD_cons, List.getD_eq_getElem?_getD, List.getElem?_eq_getElem h, Option.getD_some]
theorem yAa [Inhabited α] (h : i < l.length) : ((((l.drop i).take 1).map f).map D.t).headD .bad = .t (f (l.getD i default)) := by
 rw [List.drop_eq_getElem_cons h]
 simp only [List.map_cons, List.take_succ_cons, List.headD_cons, List.getD_eq_getElem?_getD, List.getElem?_eq_getElem h, Option.getD_some]
theorem yEM [Inhabited α] (h : 0 < l.length) : (((l.take 1).map f).map D.t).headD .bad = .t (f (l.getD 0 default)) := by
 have := yAa (f := f) (i := 0) h
 simpa using this
theorem yJa {l : List UInt8} : T.flatL (l.map w8) = true := tW _ (fun _ => rfl) l
theorem yGv {l : List UInt16} : T.flatL (l.map w16) = true := tW _ (fun _ => rfl) l
theorem yGu {l : List UInt32} : T.flatL (l.map w32) = true := tW _ (fun _ => rfl) l
theorem yGx {l : List Int} : T.flatL (l.map num) = true := tW _ (fun _ => rfl) l
theorem yGw {l : List (List UInt8)} : T.flatL (l.map txt) = true := tW _ (fun _ => rfl) l
theorem yGy {l : List Bool} : T.flatL (l.map bol) = true := tW _ (fun _ => rfl) l
attribute [push_cast] yJa yGv yGu yGx yGw yGy
theorem yJj (h : l.length ≤ n) : ((l.map f).map D.t).take n = (l.map f).map D.t := List.take_of_length_le (by simpa using h)
end
theorem yHg {l : List UInt8} {i : Nat} {x : UInt8} : ((l.map w8).map D.t).set i (.t (.v (.int .u8 (x.toNat : Int)))) = ((l.set i x).map w8).map D.t := by simp [List.map_set]; rfl
theorem yH6 {l : List UInt32} {i : Nat} {x : UInt32} : ((l.map w32).map D.t).set i (.t (.v (.int .u32 (x.toNat : Int)))) = ((l.set i x).map w32).map D.t := by simp [List.map_set]; rfl
theorem yH8 {l : List Int} {i : Nat} {x : Int} : ((l.map num).map D.t).set i (.t (.v (.int .i64 x))) = ((l.set i x).map num).map D.t := by simp [List.map_set]; rfl
theorem yH7 {l : List (List UInt8)} {i : Nat} {x : List UInt8} : ((l.map txt).map D.t).set i (.t (.v (.string (S x)))) = ((l.set i x).map txt).map D.t := by simp [List.map_set]; rfl
theorem yH9 {l : List Bool} {i : Nat} {x : Bool} : ((l.map bol).map D.t).set i (.t (.v (.bool x))) = ((l.set i x).map bol).map D.t := by simp [List.map_set]; rfl
theorem dfl_u8 : (default : UInt8) = 0 := rfl
theorem dfl_u16 : (default : UInt16) = 0 := rfl
theorem dfl_u32 : (default : UInt32) = 0 := rfl
theorem dfl_u64 : (default : UInt64) = 0 := rfl
theorem dfl_nat : (default : Nat) = 0 := rfl
theorem dfl_int : (default : Int) = 0 := rfl
theorem dfl_bool : (default : Bool) = false := rfl
theorem yGE {α : Type} : (default : List α) = [] := rfl
attribute [push_cast] Int.zero_sub dfl_u8 dfl_u16 dfl_u32 dfl_u64 dfl_nat dfl_int dfl_bool yGE
theorem tI {α : Type} {l : List α} {i : Nat} {x d : α} (h : i < l.length) : (l.set i x).getD i d = x := by
 simp [List.getD_eq_getElem?_getD, List.getElem?_set_self h]
attribute [push_cast] tI List.set_set
def un (n : Nat) : T := .v (.int .u64 n)
attribute [push_cast] un false_imp_iff true_imp_iff
theorem setAt_all : ∀ {cs ds pre : List D}, ds.length = cs.length → setAt (pre ++ cs) pre.length ds = pre ++ ds
 | [], [], pre, _ => by simp [setAt]
 | [], d :: ds, pre, h => by simp at h
 | c :: cs, [], pre, h => by simp at h
 | c :: cs, d :: ds, pre, h => by
  have ih := setAt_all (cs := cs) (ds := ds) (pre := pre ++ [d]) (by simpa using h)
  simp only [List.length_append, List.length_cons, List.length_nil, Nat.zero_add, List.append_assoc, List.cons_append, List.nil_append] at ih
  simp only [setAt]
  rw [List.set_append_right _ _ (Nat.le_refl _), Nat.sub_self, List.set_cons_zero]
  exact ih
theorem yDn {α : Type} {f : α → T} {cs : List D} {l : List α} (h : l.length = cs.length) : setAt cs 0 ((l.map f).map D.t) = (l.map f).map D.t := by
 simpa using setAt_all (cs := cs) (ds := (l.map f).map D.t) (pre := []) (by simpa using h)
theorem eO (l : List UInt8) : bytesD l = (l.map w8).map D.t := by rw [cG]; rfl
attribute [push_cast] cls_len yJi yBY yAa yEM yJj yHg yH6 yH8 yH7 yH9 yDn eO sl_mid List.take_of_length_le List.take_length List.length_replicate List.length_set
theorem rep_w8 (n : Nat) : List.replicate n (D.t (.v (.int .u8 0))) = ((List.replicate n (0 : UInt8)).map w8).map D.t := by rw [List.map_replicate, List.map_replicate]; rfl
theorem yIe (n : Nat) : List.replicate n (D.t (.v (.int .u32 0))) = ((List.replicate n (0 : UInt32)).map w32).map D.t := by rw [List.map_replicate, List.map_replicate]; rfl
theorem yIg (n : Nat) : List.replicate n (D.t (.v (.int .i64 0))) = ((List.replicate n (0 : Int)).map num).map D.t := by rw [List.map_replicate, List.map_replicate]; rfl
theorem yIf (n : Nat) : List.replicate n (D.t (.v (.string ⟨#[]⟩))) = ((List.replicate n ([] : List UInt8)).map txt).map D.t := by rw [List.map_replicate, List.map_replicate]; rfl
attribute [push_cast] rep_w8 yIe yIg yIf
theorem qN {P : Program} {t e : TypeId} {n : Nat} (h : P.underlying t = some (.array n e)) (i : Nat) : placeOf P t i = some (i * P.cellsOf e, P.cellsOf e) := by unfold placeOf; rw [h]
def unb : D → UInt8
 | .t (.v (.int .u8 n)) => UInt8.ofInt n
 | _ => 0
def okb : D → Prop
 | .t (.v (.int .u8 n)) => 0 ≤ n ∧ n ≤ 255
 | _ => False
theorem jU (x : UInt8) : UInt8.ofInt (x.toNat : Int) = x := by
 have h := wi8 (x.toNat : Int)
 have h2 := wu8 x.toNat
 rw [h2] at h
 have h3 : x.toNat % 2 ^ 8 = x.toNat := Nat.mod_eq_of_lt (UInt8.toNat_lt x)
 rw [h3] at h
 exact (UInt8.toNat_inj.1 (by exact_mod_cast h)).symm
theorem unb_ok : ∀ {ds : List D}, (∀ d ∈ ds, okb d) → bytesD (ds.map unb) = ds
 | [], _ => rfl
 | d :: ds, h => by
  have hd := h d (by simp)
  have ih := unb_ok (ds := ds) (fun e he => h e (by simp [he]))
  unfold okb at hd
  split at hd
  ·rename_i n
   have : (UInt8.ofInt n).toNat = n.toNat := by
    have := wi8 n
    rw [show IntKind.u8.wrap n = n % 256 from by simp [IntKind.wrap, IntKind.bits, IntKind.signed]] at this
    omega
   simp only [bytesD, List.map_cons, unb] at ih ⊢
   rw [ih, this, Int.toNat_of_nonneg hd.1]
  ·exact hd.elim
theorem yHN (l : List UInt8) : ((l.map w8).map D.t).map unb = l := by
 induction l with
 | nil => rfl
 | cons a l ih => simp only [List.map_cons, ih]; rw [show unb (D.t (w8 a)) = a from jU a]
theorem yIE (l : List UInt8) : ∀ d ∈ (l.map w8).map D.t, okb d := by
 intro d hd
 simp only [List.mem_map] at hd
 obtain ⟨_, ⟨x, _, rfl⟩, rfl⟩ := hd
 have := UInt8.toNat_lt x
 exact ⟨by omega, by omega⟩
def okbs : List D → Prop
 | [] => True
 | d :: ds => okb d ∧ okbs ds
theorem okbs_mem : ∀ {ds : List D}, okbs ds → ∀ d ∈ ds, okb d
 | d :: ds, ⟨h1, h2⟩, e, he => by
  rcases List.mem_cons.1 he with rfl | he
  ·exact h1
  ·exact okbs_mem h2 e he
theorem okbs_of : ∀ {ds : List D}, (∀ d ∈ ds, okb d) → okbs ds
 | [], _ => trivial
 | d :: ds, h => ⟨h d (by simp), okbs_of fun e he => h e (by simp [he])⟩
theorem yF2 (l : List UInt8) : okbs ((l.map w8).map D.t) ↔ True := ⟨fun _ => trivial, fun _ => okbs_of (yIE l)⟩
theorem yF3 {a b : List D} : okbs (a ++ b) ↔ okbs a ∧ okbs b := by
 induction a with
 | nil => simp [okbs]
 | cons x a ih => simp only [List.cons_append, okbs, ih, and_assoc]
theorem okbs_nil : okbs [] ↔ True := Iff.rfl
theorem yDQ {d : D} {ds : List D} : okbs (d :: ds) ↔ okb d ∧ okbs ds := Iff.rfl
theorem okb_w8 (x : UInt8) : okb (.t (.v (.int .u8 (x.toNat : Int)))) ↔ True := ⟨fun _ => trivial, fun _ => by have := UInt8.toNat_lt x; exact ⟨by omega, by omega⟩⟩
theorem yID (n : Int) : okb (.t (.v (.int .u8 n))) ↔ 0 ≤ n ∧ n ≤ 255 := Iff.rfl
theorem yHM (n : Int) : unb (.t (.v (.int .u8 n))) = UInt8.ofInt n := rfl
theorem unb_map_nil : List.map unb [] = [] := rfl
theorem lV (d : D) (ds : List D) : List.map unb (d :: ds) = unb d :: List.map unb ds := rfl
theorem jE (a b : List D) : List.map unb (a ++ b) = List.map unb a ++ List.map unb b := List.map_append
attribute [push_cast] jU yHN yF2 yF3 okbs_nil yDQ okb_w8 yHM cls_take cls_drop
theorem VwL_app {src : Nm → Option Nm} {hp : Nm → Option Ob} {len : Nm → Prop} : ∀ {a : List T} {b c : List D}, VwL src hp len (a.map .t ++ b) (a.map .t ++ c) ↔ VwL src hp len b c
 | [], b, c => Iff.rfl
 | x :: a, b, c => by
  simp only [List.map_cons, List.cons_append, VwL_cons, VwL_app]
  exact ⟨fun h => h.2, fun h => ⟨xA hp len x, h⟩⟩
attribute [simp] VwL_app VwL_cons xM xY vN xV xW xU Vw_agg xS xX xA VwL_refl_map yX xK xL wK xJ yW xC yV VwTs_app srcL notIn ObsVw SrcOk pOk Go.Ot.look resP resN setBad setAll
section
variable {Γ : Gl} {P : Program} {X : St} {ops ops' : Array Oper} {rid i : Nat} {o : Oper} {os : List Oper} {acc : List Meta} {Q : Exit → St → Prop} {K : St → List Meta → Prop} {draw : Bool}
theorem eU (src dst : TypeId) (x : Operand) (h : o.op = .convert src dst x) {e : TypeId} (hs : P.underlying src = some (.slice e)) (hd : P.underlying dst = some .string) (he : P.underlying e = some (.int .u8)) {m : Nm} {off n : Nat} {ob : Ob} {l : List UInt8}
  (hx : ev X x = .msl m off n 1) (hm : X.hp m = some ob) (hok : okbs ((ob.cells.drop off).take n)) (hl : ((ob.cells.drop off).take n).map unb = l) (hle : off + n ≤ ob.cells.length) : xD Γ P o X { val := .t (.v (.string (S l))), F := [m] } :=
 yFw src dst x h hs hd he l hx hm (by rw [← hl]; exact (unb_ok (okbs_mem hok)).symm) hle
theorem cY (src dst : TypeId) (x : Operand) (h : o.op = .convert src dst x) {e : TypeId} (hs : P.underlying src = some (.slice e)) (hd : P.underlying dst = some .string) (he : P.underlying e = some (.int .u8)) {l : List UInt8}
  (hx : ev X x = .t (.sl l.length (l.map w8))) : xD Γ P o X { val := .t (.v (.string (S l))) } := yHV src dst x h hs hd he l hx rfl
end
end Go.Ot

namespace Go.Ot
theorem yR {Γ : Gl} {P : Program} (hmix : P.follows .mixedOrders = true) {f : FuncId} {fn : Func} {c : Code} {n : Nat} (hf : P.funcs[f]? = some fn) (hb : fn.body = some c) (hn : fn.ntmps = n) {args : List D} {ps : List Ob} {r : D} {ps' : List (Option Ob)} {ns : List Ob} {X0 : St}
  (h : wpK Γ P c (fun e Z => (e = .normal ∨ e = .ret) ∧ RetOk P fn Z r ps' ns) X0)
  (hX : ({ sl := args ++ List.replicate (n - args.length) .bad, hp := nH ps } : St) = X0 := by (simp only [yFd, push_cast, resP, List.replicate_succ, List.replicate_zero, reduceCtorEq, Nat.reduceAdd, Nat.reduceSub, Nat.reduceMul, Nat.reduceEqDiff, Nat.reduceLT, Nat.reduceLeDiff, Nat.reduceMod, Nat.reduceDiv, Int.reduceLE, Int.reduceLT, Int.reduceEq, Int.reduceToNat, Int.reduceAdd, Int.reduceSub, Int.reduceMul, Int.reduceNeg] <;> rfl)) : Good Γ P f args ps r ps' ns := by
 subst hX hn
 exact aU hmix hf hb h
section
variable {Γ : Gl} {P : Program} {X : St} {ops ops' : Array Oper} {rid i : Nat} {o : Oper} {os : List Oper} {acc : List Meta} {Q : Exit → St → Prop} {K : St → List Meta → Prop} {draw : Bool}
theorem sV {src dst e : TypeId} {x : Operand} {m : Nm} {off n : Nat} {ob : Ob} {l : List UInt8} {X' : St} {i' : Nat} (h : wpS Γ P ops rid i' os X' [] (wN ops' false Q)) (hg : o.guard = none := by rfl)
 (hs : wP P rid i X o = none := by (simp only [push_cast, reduceCtorEq, Nat.reduceAdd, Nat.reduceSub, Nat.reduceMul, Nat.reduceEqDiff, Nat.reduceLT, Nat.reduceLeDiff, Nat.reduceMod, Nat.reduceDiv, Int.reduceLE, Int.reduceLT, Int.reduceEq, Int.reduceToNat, Int.reduceAdd, Int.reduceSub, Int.reduceMul, Int.reduceNeg]))
 (ho : o.op = .convert src dst x := by rfl)
 (h1 : P.underlying src = some (.slice e) := by (simp only [push_cast] <;> rfl))
 (h2 : P.underlying dst = some .string := by (simp only [push_cast] <;> rfl))
 (h3 : P.underlying e = some (.int .u8) := by (simp only [push_cast] <;> rfl))
 (hx : ev X x = .msl m off n 1 := by (simp only [push_cast, reduceCtorEq, Nat.reduceAdd, Nat.reduceSub, Nat.reduceMul, Nat.reduceEqDiff, Nat.reduceLT, Nat.reduceLeDiff, Nat.reduceMod, Nat.reduceDiv, Int.reduceLE, Int.reduceLT, Int.reduceEq, Int.reduceToNat, Int.reduceAdd, Int.reduceSub, Int.reduceMul, Int.reduceNeg] <;> rfl))
 (hm' : X.hp m = some ob := by (simp only [push_cast, reduceCtorEq, Nat.reduceAdd, Nat.reduceSub, Nat.reduceMul, Nat.reduceEqDiff, Nat.reduceLT, Nat.reduceLeDiff, Nat.reduceMod, Nat.reduceDiv, Int.reduceLE, Int.reduceLT, Int.reduceEq, Int.reduceToNat, Int.reduceAdd, Int.reduceSub, Int.reduceMul, Int.reduceNeg] <;> rfl))
 (hok : okbs ((ob.cells.drop off).take n) := by (simp (disch := first | omega | (simp only [zL] <;> omega) | (simp only [push_cast] <;> omega) | fail) only [push_cast, unb_map_nil, lV, jE, reduceCtorEq, Nat.reduceAdd, Nat.reduceSub, Nat.reduceMul, Nat.reduceEqDiff, Nat.reduceLT, Nat.reduceLeDiff, Nat.reduceMod, Nat.reduceDiv, Int.reduceLE, Int.reduceLT, Int.reduceEq, Int.reduceToNat, Int.reduceAdd, Int.reduceSub, Int.reduceMul, Int.reduceNeg] <;> (try simp only [yID]) <;> (try omega)))
 (hl : ((ob.cells.drop off).take n).map unb = l := by (simp (disch := first | omega | (simp only [zL] <;> omega) | (simp only [push_cast] <;> omega) | fail) only [push_cast, unb_map_nil, lV, jE, reduceCtorEq, Nat.reduceAdd, Nat.reduceSub, Nat.reduceMul, Nat.reduceEqDiff, Nat.reduceLT, Nat.reduceLeDiff, Nat.reduceMod, Nat.reduceDiv, Int.reduceLE, Int.reduceLT, Int.reduceEq, Int.reduceToNat, Int.reduceAdd, Int.reduceSub, Int.reduceMul, Int.reduceNeg] <;> rfl))
 (hle : off + n ≤ ob.cells.length := by (first | omega | (simp only [push_cast, List.length_cons, List.length_nil, List.length_map, List.length_append, reduceCtorEq, Nat.reduceAdd, Nat.reduceSub, Nat.reduceMul, Nat.reduceEqDiff, Nat.reduceLT, Nat.reduceLeDiff, Nat.reduceMod, Nat.reduceDiv, Int.reduceLE, Int.reduceLT, Int.reduceEq, Int.reduceToNat, Int.reduceAdd, Int.reduceSub, Int.reduceMul, Int.reduceNeg] <;> (try omega))))
 (hX : X.app o.dst { val := .t (.v (.string (S l))), F := [m] } = X' := by (simp only [push_cast, reduceCtorEq, Nat.reduceAdd, Nat.reduceEqDiff] <;> rfl))
 (hi : i + 1 = i' := by (simp only [Nat.reduceAdd] <;> rfl)) : wpS Γ P ops rid i (o :: os) X [] (wN ops' false Q) := lD hg hs (eU src dst x ho h1 h2 h3 hx hm' hok hl hle) (fun _ => rfl) hX hi h
theorem uO {src dst e : TypeId} {x : Operand} {l : List UInt8} {X' : St} {i' : Nat} (h : wpS Γ P ops rid i' os X' [] (wN ops' false Q)) (hg : o.guard = none := by rfl)
 (hs : wP P rid i X o = none := by (simp only [push_cast, reduceCtorEq, Nat.reduceAdd, Nat.reduceSub, Nat.reduceMul, Nat.reduceEqDiff, Nat.reduceLT, Nat.reduceLeDiff, Nat.reduceMod, Nat.reduceDiv, Int.reduceLE, Int.reduceLT, Int.reduceEq, Int.reduceToNat, Int.reduceAdd, Int.reduceSub, Int.reduceMul, Int.reduceNeg]))
 (ho : o.op = .convert src dst x := by rfl)
 (h1 : P.underlying src = some (.slice e) := by (simp only [push_cast] <;> rfl))
 (h2 : P.underlying dst = some .string := by (simp only [push_cast] <;> rfl))
 (h3 : P.underlying e = some (.int .u8) := by (simp only [push_cast] <;> rfl))
 (hx : ev X x = .t (.sl l.length (l.map w8)) := by (simp only [push_cast, reduceCtorEq, Nat.reduceAdd, Nat.reduceSub, Nat.reduceMul, Nat.reduceEqDiff, Nat.reduceLT, Nat.reduceLeDiff, Nat.reduceMod, Nat.reduceDiv, Int.reduceLE, Int.reduceLT, Int.reduceEq, Int.reduceToNat, Int.reduceAdd, Int.reduceSub, Int.reduceMul, Int.reduceNeg] <;> rfl))
 (hX : X.app o.dst { val := .t (.v (.string (S l))) } = X' := by (simp only [push_cast, reduceCtorEq, Nat.reduceAdd, Nat.reduceEqDiff] <;> rfl))
 (hi : i + 1 = i' := by (simp only [Nat.reduceAdd] <;> rfl)) : wpS Γ P ops rid i (o :: os) X [] (wN ops' false Q) := lD hg hs (cY src dst x ho h1 h2 h3 hx) (fun _ => rfl) hX hi h
theorem pQ {src dst : TypeId} {x : Operand} {k : IntKind} {n : Int} {X' : St} {i' : Nat} (h : wpS Γ P ops rid i' os X' [] (wN ops' false Q)) (hg : o.guard = none := by rfl)
 (ho : o.op = .convert src dst x := by rfl)
 (hx : ev X x = .t (.v (.int k n)) := by (simp only [push_cast, reduceCtorEq, Nat.reduceAdd, Nat.reduceSub, Nat.reduceMul, Nat.reduceEqDiff, Nat.reduceLT, Nat.reduceLeDiff, Nat.reduceMod, Nat.reduceDiv, Int.reduceLE, Int.reduceLT, Int.reduceEq, Int.reduceToNat, Int.reduceAdd, Int.reduceSub, Int.reduceMul, Int.reduceNeg] <;> rfl))
 (h1 : (P.underlying src).isSome = true := by (simp only [push_cast]))
 (h2 : P.underlying dst = some (.int .u8) := by (simp only [push_cast] <;> rfl))
 (hX : X.app o.dst { val := .t (w8 (UInt8.ofInt n)) } = X' := by (simp only [push_cast, reduceCtorEq, Nat.reduceAdd, Nat.reduceEqDiff] <;> rfl))
 (hi : i + 1 = i' := by (simp only [Nat.reduceAdd] <;> rfl)) : wpS Γ P ops rid i (o :: os) X [] (wN ops' false Q) := yFJ (c := (P.underlying src).isSome = true) hg (by simp only [wP, ho, hx, h2, wi8]; rfl) h1 hX hi h
theorem a_cv32 {src dst : TypeId} {x : Operand} {k : IntKind} {n : Int} {X' : St} {i' : Nat} (h : wpS Γ P ops rid i' os X' [] (wN ops' false Q)) (hg : o.guard = none := by rfl)
 (ho : o.op = .convert src dst x := by rfl)
 (hx : ev X x = .t (.v (.int k n)) := by (simp only [push_cast, reduceCtorEq, Nat.reduceAdd, Nat.reduceSub, Nat.reduceMul, Nat.reduceEqDiff, Nat.reduceLT, Nat.reduceLeDiff, Nat.reduceMod, Nat.reduceDiv, Int.reduceLE, Int.reduceLT, Int.reduceEq, Int.reduceToNat, Int.reduceAdd, Int.reduceSub, Int.reduceMul, Int.reduceNeg] <;> rfl))
 (h1 : (P.underlying src).isSome = true := by (simp only [push_cast]))
 (h2 : P.underlying dst = some (.int .u32) := by (simp only [push_cast] <;> rfl))
 (hX : X.app o.dst { val := .t (w32 (UInt32.ofInt n)) } = X' := by (simp only [push_cast, reduceCtorEq, Nat.reduceAdd, Nat.reduceEqDiff] <;> rfl))
 (hi : i + 1 = i' := by (simp only [Nat.reduceAdd] <;> rfl)) : wpS Γ P ops rid i (o :: os) X [] (wN ops' false Q) := yFJ (c := (P.underlying src).isSome = true) hg (by simp only [wP, ho, hx, h2, wi32]; rfl) h1 hX hi h
theorem yHF {src dst : TypeId} {x : Operand} {k : IntKind} {n : Int} {X' : St} {i' : Nat} (h : wpS Γ P ops rid i' os X' [] (wN ops' false Q)) (hg : o.guard = none := by rfl)
 (ho : o.op = .convert src dst x := by rfl)
 (hx : ev X x = .t (.v (.int k n)) := by (simp only [push_cast, reduceCtorEq, Nat.reduceAdd, Nat.reduceSub, Nat.reduceMul, Nat.reduceEqDiff, Nat.reduceLT, Nat.reduceLeDiff, Nat.reduceMod, Nat.reduceDiv, Int.reduceLE, Int.reduceLT, Int.reduceEq, Int.reduceToNat, Int.reduceAdd, Int.reduceSub, Int.reduceMul, Int.reduceNeg] <;> rfl))
 (h1 : (P.underlying src).isSome = true := by (simp only [push_cast]))
 (h2 : P.underlying dst = some (.int .u64) := by (simp only [push_cast] <;> rfl))
 (hX : X.app o.dst { val := .t (w64 (UInt64.ofInt n)) } = X' := by (simp only [push_cast, reduceCtorEq, Nat.reduceAdd, Nat.reduceEqDiff] <;> rfl))
 (hi : i + 1 = i' := by (simp only [Nat.reduceAdd] <;> rfl)) : wpS Γ P ops rid i (o :: os) X [] (wN ops' false Q) := yFJ (c := (P.underlying src).isSome = true) hg (by simp only [wP, ho, hx, h2, wi64]; rfl) h1 hX hi h
end
section
variable {Γ : Gl} {P : Program} {Q : Exit → St → Prop}
theorem vE {c : Code} {X X' : St} (h : wpK Γ P c Q X') (hX : X = X' := by ((try simp only [push_cast, reduceCtorEq, Nat.reduceAdd, Nat.reduceSub, Nat.reduceMul, Nat.reduceEqDiff, Nat.reduceLT, Nat.reduceLeDiff, Nat.reduceMod, Nat.reduceDiv, Int.reduceLE, Int.reduceLT, Int.reduceEq, Int.reduceToNat, Int.reduceAdd, Int.reduceSub, Int.reduceMul, Int.reduceNeg]) <;> rfl)) : wpK Γ P c Q X := by subst hX; exact h
theorem wF {Z Z' X X' : St} (h : Le Γ Z' X') (hZ : Z = Z' := by ((try simp only [push_cast, reduceCtorEq, Nat.reduceAdd, Nat.reduceSub, Nat.reduceMul, Nat.reduceEqDiff, Nat.reduceLT, Nat.reduceLeDiff, Nat.reduceMod, Nat.reduceDiv, Int.reduceLE, Int.reduceLT, Int.reduceEq, Int.reduceToNat, Int.reduceAdd, Int.reduceSub, Int.reduceMul, Int.reduceNeg]) <;> rfl)) (hX : X = X' := by ((try simp only [push_cast, reduceCtorEq, Nat.reduceAdd, Nat.reduceSub, Nat.reduceMul, Nat.reduceEqDiff, Nat.reduceLT, Nat.reduceLeDiff, Nat.reduceMod, Nat.reduceDiv, Int.reduceLE, Int.reduceLT, Int.reduceEq, Int.reduceToNat, Int.reduceAdd, Int.reduceSub, Int.reduceMul, Int.reduceNeg]) <;> rfl)) : Le Γ Z X := by subst hX hZ; exact h
end
end Go.Ot

namespace Go.Ot
open Go.RowKit
theorem eI {Γ : Gl} {P : Program} {f : FuncId} {args : List D} {v : Value}
  (h : ∀ (w : World) (M : Nat → Prop) (vals : List Value), RepsA w M (fun _ => none) args vals → Calls P f vals.toArray w fun e w' => e = .returned v ∧ Below w.heap.size w w') : Good Γ P f args [] (.t (.v v)) [] [] := by
 intro w A η vals hG hgs hA hok hdom hmg hargs
 have hη : η = fun _ => none := by
  funext m
  cases e : η m with
  | none => rfl
  | some q =>
   obtain ⟨k, rfl⟩ := hdom m q e
   exact absurd (by rw [sZ]) (hok.dom _ q e)
 subst hη
 refine (h w _ vals hargs).mono fun e w' ⟨he, hb⟩ => ?_
 refine ⟨v, fun _ => none, he, rfl, ?_, hb.size, fun b hb' _ => hb.block b hb', (fun m ob b s _ _ h => nomatch h), (fun m b s h => nomatch h), (fun m ob q _ _ h => nomatch h), hb.os, hb.tape, hb.output⟩
 rw [HpRes_nil]
 exact ⟨(fun m ob hm => nomatch hm), (fun m q hq => nomatch hq), (fun m m' b s s' hm => nomatch hm), (fun m b s hm => nomatch hm)⟩
theorem yBr {w : World} {M : Nat → Prop} {η : Et} {a b : D} {vals : List Value} (h : RepsA w M η [a, b] vals) : ∃ u v, vals = [u, v] ∧ Rep w M η a u ∧ Rep w M η b v := by
 obtain ⟨u, us, rfl, h1, v, vs, rfl, h2, rfl⟩ := h
 exact ⟨u, v, rfl, h1, h2⟩
theorem join_flat : ∀ xs : List (List UInt8), Lib.join xs [] = xs.flatten
 | [] => rfl
 | x :: r => by
  rw [Lib.join_cons]
  simp [Lib.joinTail]
theorem yEt {Γ : Gl} {P : Program} {f : FuncId}
  (h0 : ∀ (a : Option Addr) (c : Nat) (sep : ByteArray) (w : World), Calls P f #[.slice a 0 c, .string sep] w fun e w' => e = .returned (.string ⟨#[]⟩) ∧ w' = w)
  (h1 : ∀ (bk o c : Nat) (xs : List ByteArray) (sep : ByteArray) (w : World), (∀ (j : Nat) x, xs[j]? = some x → w.cell? ⟨bk, o + j, none⟩ = some (.string x)) → bk < w.heap.size → xs.length ≤ 140737488355328 → xs.length ≤ c →
   (Lib.join (xs.map (·.data.toList)) sep.data.toList).length ≤ 140737488355328 → Calls P f #[.slice (some ⟨bk, o, none⟩) xs.length c, .string sep] w fun e w' => e = .returned (.string ⟨(Lib.join (xs.map (·.data.toList)) sep.data.toList).toArray⟩) ∧ Below w.heap.size w w')
  (xs : List (List UInt8)) (hn : xs.length ≤ 140737488355328) (hl : xs.flatten.length ≤ 140737488355328) : Good Γ P f [.t (lst txt xs), .t (txt [])] [] (.t (txt xs.flatten)) [] [] := by
 refine eI (v := .string (S xs.flatten)) fun w M vals hr => ?_
 obtain ⟨u, v, rfl, ⟨A, c, rfl, hc, _, hA⟩, hv⟩ := yBr hr
 have hv : v = .string (S []) := hv
 subst hv
 cases xs with
 | nil => exact (h0 A c _ w).mono fun e w' ⟨he, hw⟩ => ⟨he, hw ▸ Below.refl _ _⟩
 | cons x xs =>
  rcases hA with hA | ⟨a, rfl, hM, hA⟩
  ·simp at hA
  ·obtain ⟨bk, o, sp⟩ := a
   have hsp : sp = none := by
    obtain ⟨⟨u, hu, _⟩, _⟩ := hA
    have hu : w.cell? ⟨bk, o, sp⟩ = some u := hu
    cases sp with
    | none => rfl
    | some s =>
     simp only [World.cell?] at hu
     split at hu <;> simp at hu
   subst hsp
   have hlt : bk < w.heap.size := hA.lt
   have hmap : ((x :: xs).map S).map (·.data.toList) = x :: xs := by
    rw [List.map_map]
    have : ((fun b : ByteArray => b.data.toList) ∘ S) = id := by funext l; rfl
    rw [this, List.map_id]
   have := h1 bk o c ((x :: xs).map S) (S []) w (fun j b hb => ?_) hlt (by simpa using hn) (by simpa using hc) (by rw [hmap]; show (Lib.join _ []).length ≤ _; rw [join_flat]; exact hl)
   ·rw [hmap] at this
    simp only [List.length_map] at this
    refine this.mono fun e w' ⟨he, hb⟩ => ⟨?_, hb⟩
    rw [he]
    show _ = Ending.returned (.string (S (x :: xs).flatten))
    rw [← join_flat]
    rfl
   ·rw [List.getElem?_map, Option.map_eq_some_iff] at hb
    obtain ⟨l, hl', rfl⟩ := hb
    obtain ⟨u, h2, _, h3⟩ := hA.get (i := j) (d := txt l) (by rw [List.getElem?_map, hl']; rfl)
    have h3 : u = .string (S l) := h3
    subst h3
    rwa [Nat.zero_add, sJ] at h2
theorem jQ (b : UInt8) : ∀ n, Lib.repeatL [b] n = List.replicate n b
 | 0 => rfl
 | n + 1 => by rw [Lib.repeatL, jQ b n]; rfl
theorem yAT {Γ : Gl} {P : Program} {f : FuncId}
  (h1 : ∀ (s : ByteArray) (c : Nat) (w : World), c ≤ 9223372036854775807 → s.size * c ≤ 140737488355328 → Calls P f #[.string s, .int .i64 c] w fun e w' => e = .returned (.string ⟨(Lib.repeatL s.data.toList c).toArray⟩) ∧ Below w.heap.size w w')
  (b : UInt8) (n : Nat) (hn : n ≤ 140737488355328) : Good Γ P f [.t (txt [b]), .t (num n)] [] (.t (txt (List.replicate n b))) [] [] := by
 refine eI (v := .string (S (List.replicate n b))) fun w M vals hr => ?_
 obtain ⟨u, v, rfl, hu, hv⟩ := yBr hr
 have hu : u = .string (S [b]) := hu
 have hv : v = .int .i64 n := hv
 subst hu hv
 refine (h1 (S [b]) n w (by omega) (by show 1 * n ≤ _; omega)).mono fun e w' ⟨he, hb⟩ => ⟨?_, hb⟩
 rw [he, ← jQ]
 rfl
end Go.Ot

namespace Go.Ot
theorem setAtV_take : ∀ (us : List Value) (cs : List Value) (off n : Nat), off + us.length ≤ n → (vK cs off us).take n = vK (cs.take n) off us := by
 intro us
 induction us with
 | nil => intro cs off n _; rfl
 | cons u us ih =>
  intro cs off n hn
  simp only [vK]
  rw [ih _ _ _ (by simp at hn; omega), List.take_set]
section
variable {Γ : Gl} {P : Program} {o : Oper} {X : St}
theorem yCX (w : World) (M : Nat → Prop) (η : Et) (l : List UInt8) : Reps w M η (bytesD l) (l.map fun b => Value.int .u8 b.toNat) := by
 refine Reps.of_get (by simp) (fun j d hd => ?_)
 simp only [bytesD, List.getElem?_map, Option.map_eq_some_iff] at hd
 obtain ⟨b, hb, rfl⟩ := hd
 exact ⟨.int .u8 b.toNat, by simp [hb], rfl, rfl⟩
theorem yDj (x y : Operand) (t u : TypeId) (h : o.op = .call { callee := .builtin .copy, args := #[x, y], argTypes := #[t, u] }) {m : Nm} {off n : Nat} {ob : Ob} {e : TypeId} {l : List UInt8} (hx : ev X x = .msl m off n 1) (hy : ev X y = .t (.v (.string (S l))))
  (hm : X.hp m = some ob) (ho : ob.own = true) (ht : P.underlying t = some (.slice e)) (he : (P.info? e).isSome = true) (h1 : P.cellsOf e = 1) (hl : off + n ≤ ob.cells.length) :
  xD Γ P o X { val := .t (num (min l.length n : Nat)), F := [m], upd := [(m, some { ob with cells := setAt ob.cells off (bytesD (l.take n)) })] } := by
 intro E Y a w η hA hS K Q hK
 have hr := hS.ev x
 rw [hA.2.1 x (by simp [h, Op.operands, Call.operands]), hx] at hr
 obtain ⟨B, c, hex, hnc, _, hB⟩ := hr
 have hry := hS.ev y
 rw [hA.2.1 y (by simp [h, Op.operands, Call.operands]), hy] at hry
 have hey : a.eval y = .string (S l) := hry
 have hm' : Y.hp m = some ob := (hA.2.2 m (by simp)).trans hm
 have hext : ((S l).extract 0 (min l.length n)).data.map (fun b => Value.int .u8 b.toNat) = ((l.take n).map fun b => Value.int .u8 b.toNat).toArray := by
  rw [yAi]
  apply Array.ext'
  have e1 : (l.take (min l.length n)).drop 0 = l.take n := by
   rw [List.drop_zero]
   by_cases hln : n ≤ l.length
   ·rw [Nat.min_eq_right hln]
   ·rw [Nat.min_eq_left (by omega), List.take_of_length_le (Nat.le_refl _), List.take_of_length_le (by omega)]
  rw [e1]
  simp [S]
 have hsz : (sizeOf e).run P w = .ok 1 w := by rw [run_sizeOf he, h1]
 have hmn : Nat.min (S l).size n = min l.length n := rfl
 cases hcap : decide (c = 0) with
 | true =>
  have hc0 : c = 0 := of_decide_eq_true hcap
  have hn0 : n = 0 := by omega
  subst hn0
  refine wR (v := .int .i64 (min l.length 0 : Nat)) (w' := w) (by
   simp only [execOp, h, resolve, invoke, builtin]
   rw [Nat.min_zero] at hext
   cases B with
   | none => simp [Builtin.copy_, hex, hey, run_underlying ht, Builtin.lenOf, hsz, Builtin.firstCells, goInt, Sem.run_bind]
   | some A => simp [Builtin.copy_, hex, hey, run_underlying ht, Builtin.lenOf, hsz, Builtin.firstCells, goInt, Sem.run_bind, hext, storeCells]) (hK _ _ η ?_)
  have hsame : Y.app o.dst { val := .t (num (min l.length 0 : Nat)), F := [m], upd := [(m, some { ob with cells := setAt ob.cells off (bytesD (l.take 0)) })] } = { Y with sl := match o.dst with | some s => Y.sl.set s (.t (num (min l.length 0 : Nat))) | none => Y.sl } := by
   have : upd Y.hp m (some ob) = Y.hp := by
    funext m'
    by_cases e : m' = m
    ·subst e; rw [upd_same, hm']
    ·rw [upd_ne e]
   rw [uN]
   cases o.dst <;> simp [bytesD, setAt, this]
  rw [hsame]
  exact hS.put (by exact rfl) o.dst
 | false =>
  have hc0 : c ≠ 0 := of_decide_eq_false hcap
  rcases hB with hB | ⟨b, s, hη, rfl, hoff⟩
  ·exact absurd hB hc0
  obtain ⟨cur, fr, hb⟩ := hS.block hm' hη
  have hle := hb.le
  have hbs := hb.size
  have hlen : ((l.take n).map fun b => Value.int .u8 b.toNat).length ≤ n := by simp; omega
  have hst := vI P b off ob.ty fr ((l.take n).map fun b => Value.int .u8 b.toNat) 0 cur w hb.heap hb.free (by omega) (by intro v hv; simp only [List.mem_map] at hv; obtain ⟨b, _, rfl⟩ := hv; rfl)
  rw [Nat.add_zero] at hst
  have htk : l.take (l.length.min n) = l.take n := by
   show l.take (min l.length n) = l.take n
   by_cases hln : n ≤ l.length
   ·rw [Nat.min_eq_right hln]
   ·rw [Nat.min_eq_left (by omega), List.take_of_length_le (Nat.le_refl _), List.take_of_length_le (by omega)]
  have hst' : (storeCells ⟨b, off, none⟩ (List.take (l.length.min n) (List.map (fun b => Value.int .u8 b.toNat) l))).run P w = .ok () (w.setRow b (vK cur.toList off ((l.take n).map fun b => Value.int .u8 b.toNat)).toArray) := by
   rw [← List.map_take, htk]; exact hst
  refine wR (v := .int .i64 (min l.length n : Nat)) (w' := w.setRow b (vK cur.toList off ((l.take n).map fun b => Value.int .u8 b.toNat)).toArray) (by
   simp only [execOp, h, resolve, invoke, builtin]
   simp [Builtin.copy_, hex, hey, run_underlying ht, Builtin.lenOf, hsz, Builtin.firstCells, goInt, Sem.run_bind, hext, hst, hst']
   try rfl) (hK _ _ η ?_)
  rw [uN]
  refine Sim.put (X := { Y with hp := upd Y.hp m _ }) (hS.write hm' ho hη (setAt ob.cells off (bytesD (l.take n))) _ ?_ ?_ ?_ ?_) (d := .t (num _)) (u := .int .i64 _) rfl o.dst
  ·simp [setAtV_length, hbs]
  ·rw [setAt_length]; exact hle
  ·rw [setAt_length]; exact hb.box
  ·rw [setAt_length]
   have := Reps.setAt (yCX w _ η (l.take n)) off hb.reps
   refine Reps.of_get (by simp [setAt_length, setAtV_length]; omega) (fun j d hd => ?_)
   obtain ⟨u, hu, h3, h4⟩ := this.get hd
   refine ⟨u, ?_, h3, h4⟩
   rw [List.toList_toArray, setAtV_take _ _ _ _ (by omega)]
   exact hu
end
theorem setAt_bytes : ∀ (b l : List UInt8), b.length ≤ l.length → setAt ((l.map w8).map D.t) 0 (bytesD b) = ((b ++ l.drop b.length).map w8).map D.t := by
 have key : ∀ (b l pre : List UInt8), b.length ≤ l.length → setAt (((pre ++ l).map w8).map D.t) pre.length (bytesD b) = ((pre ++ b ++ l.drop b.length).map w8).map D.t := by
  intro b
  induction b with
  | nil => intro l pre _; simp [bytesD, setAt]
  | cons x b ih =>
   intro l pre h
   cases l with
   | nil => simp at h
   | cons y l =>
    have := ih l (pre ++ [x]) (by simpa using h)
    simp only [List.append_assoc, List.cons_append, List.nil_append, List.length_append, List.length_cons, List.length_nil, Nat.zero_add] at this
    simp only [bytesD, List.map_cons, setAt, List.length_cons, List.drop_succ_cons, List.append_assoc, List.cons_append] at this ⊢
    rw [show (((pre ++ y :: l).map w8).map D.t).set pre.length (D.t (.v (.int .u8 (x.toNat : Int)))) = ((pre ++ x :: l).map w8).map D.t from by
     rw [yHg, List.set_append_right _ _ (Nat.le_refl _), Nat.sub_self, List.set_cons_zero]]
    exact this
 intro b l h
 simpa using key b l [] h
theorem bF {b l : List UInt8} (h : b.length ≤ l.length) : setAt ((l.map w8).map D.t) 0 ((b.map w8).map D.t) = ((b ++ l.drop b.length).map w8).map D.t := by rw [← eO b]; exact setAt_bytes b l h
-- steps
attribute [push_cast] bF
section
variable {Γ : Gl} {P : Program} {X : St} {ops ops' : Array Oper} {rid i : Nat} {o : Oper} {os : List Oper} {acc : List Meta} {Q : Exit → St → Prop} {K : St → List Meta → Prop} {draw : Bool}
theorem a_copy {x y : Operand} {t u e : TypeId} {m : Nm} {off n : Nat} {ob : Ob} {l : List UInt8} {X' : St} {i' : Nat} (h : wpS Γ P ops rid i' os X' [] (wN ops' false Q)) (hg : o.guard = none := by rfl)
 (hs : wP P rid i X o = none := by (simp only [wP, sM]))
 (ho : o.op = .call { callee := .builtin .copy, args := #[x, y], argTypes := #[t, u] } := by rfl)
 (hx : ev X x = .msl m off n 1 := by (simp only [push_cast, reduceCtorEq, Nat.reduceAdd, Nat.reduceSub, Nat.reduceMul, Nat.reduceEqDiff, Nat.reduceLT, Nat.reduceLeDiff, Nat.reduceMod, Nat.reduceDiv, Int.reduceLE, Int.reduceLT, Int.reduceEq, Int.reduceToNat, Int.reduceAdd, Int.reduceSub, Int.reduceMul, Int.reduceNeg] <;> rfl))
 (hy : ev X y = .t (.v (.string (S l))) := by (simp only [push_cast, reduceCtorEq, Nat.reduceAdd, Nat.reduceSub, Nat.reduceMul, Nat.reduceEqDiff, Nat.reduceLT, Nat.reduceLeDiff, Nat.reduceMod, Nat.reduceDiv, Int.reduceLE, Int.reduceLT, Int.reduceEq, Int.reduceToNat, Int.reduceAdd, Int.reduceSub, Int.reduceMul, Int.reduceNeg] <;> rfl))
 (hm' : X.hp m = some ob := by (simp only [push_cast, reduceCtorEq, Nat.reduceAdd, Nat.reduceSub, Nat.reduceMul, Nat.reduceEqDiff, Nat.reduceLT, Nat.reduceLeDiff, Nat.reduceMod, Nat.reduceDiv, Int.reduceLE, Int.reduceLT, Int.reduceEq, Int.reduceToNat, Int.reduceAdd, Int.reduceSub, Int.reduceMul, Int.reduceNeg] <;> rfl))
 (h0 : ob.own = true := by rfl)
 (h1 : P.underlying t = some (.slice e) := by (simp only [push_cast] <;> rfl))
 (h2 : (P.info? e).isSome = true := by (simp only [push_cast]))
 (h3 : P.cellsOf e = 1 := by (simp only [push_cast]))
 (hl : off + n ≤ ob.cells.length := by (first | omega | (simp only [push_cast, List.length_cons, List.length_nil, List.length_map, List.length_append, List.length_replicate, reduceCtorEq, Nat.reduceAdd, Nat.reduceSub, Nat.reduceMul, Nat.reduceEqDiff, Nat.reduceLT, Nat.reduceLeDiff, Nat.reduceMod, Nat.reduceDiv, Int.reduceLE, Int.reduceLT, Int.reduceEq, Int.reduceToNat, Int.reduceAdd, Int.reduceSub, Int.reduceMul, Int.reduceNeg] <;> (try omega))))
 (hX : X.app o.dst { val := .t (num (min l.length n : Nat)), F := [m], upd := [(m, some { ob with cells := setAt ob.cells off (bytesD (l.take n)) })] } = X' := by (simp (disch := first | omega | (simp only [zL] <;> omega) | (simp only [push_cast] <;> omega) | fail) only [push_cast, reduceCtorEq, Nat.reduceAdd, Nat.reduceEqDiff] <;> rfl))
 (hi : i + 1 = i' := by (simp only [Nat.reduceAdd] <;> rfl)) : wpS Γ P ops rid i (o :: os) X [] (wN ops' false Q) := lD hg hs (yDj x y t u ho hx hy hm' h0 h1 h2 h3 hl) (fun _ => rfl) hX hi h
end
end Go.Ot
