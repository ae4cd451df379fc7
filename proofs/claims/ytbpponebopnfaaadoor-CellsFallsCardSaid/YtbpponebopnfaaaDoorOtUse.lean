/- A function's body, texts out of bytes, ends: in one word each. -/
import Derived.Test.YtbpponebopnfaaaDoorOtData
set_option linter.unusedVariables false
set_option linter.unusedSimpArgs false
namespace Go.Ot
theorem a_body {Γ : Gl} {P : Program} (hmix : P.follows .mixedOrders = true) {f : FuncId} {fn : Func} {c : Code} {n : Nat} (hf : P.funcs[f]? = some fn) (hb : fn.body = some c) (hn : fn.ntmps = n) {args : List D} {ps : List Ob} {r : D} {ps' : List (Option Ob)} {ns : List Ob} {X0 : St}
    (h : wpK Γ P c (fun e Z => (e = .normal ∨ e = .ret) ∧ RetOk P fn Z r ps' ns) X0)
    (hX : ({ sl := args ++ List.replicate (n - args.length) .bad, hp := HpOf ps } : St) = X0 := by (simp only [HpOf_look, push_cast, resP, List.replicate_succ, List.replicate_zero, reduceCtorEq, Nat.reduceAdd, Nat.reduceSub, Nat.reduceMul, Nat.reduceEqDiff, Nat.reduceLT, Nat.reduceLeDiff, Nat.reduceMod, Nat.reduceDiv, Int.reduceLE, Int.reduceLT, Int.reduceEq, Int.reduceToNat, Int.reduceAdd, Int.reduceSub, Int.reduceMul, Int.reduceNeg] <;> rfl)) : Good Γ P f args ps r ps' ns := by
  subst hX hn
  exact good_of_body hmix hf hb h
section
variable {Γ : Gl} {P : Program} {X : St} {ops ops' : Array Oper} {rid i : Nat} {o : Oper} {os : List Oper} {acc : List Meta} {Q : Exit → St → Prop} {K : St → List Meta → Prop} {draw : Bool}

theorem a_text {src dst e : TypeId} {x : Operand} {m : Nm} {off n : Nat} {ob : Ob} {l : List UInt8} {X' : St} {i' : Nat} (h : wpS Γ P ops rid i' os X' [] (regK ops' false Q)) (hg : o.guard = none := by rfl)
  (hs : stepF P rid i X o = none := by (simp only [push_cast, reduceCtorEq, Nat.reduceAdd, Nat.reduceSub, Nat.reduceMul, Nat.reduceEqDiff, Nat.reduceLT, Nat.reduceLeDiff, Nat.reduceMod, Nat.reduceDiv, Int.reduceLE, Int.reduceLT, Int.reduceEq, Int.reduceToNat, Int.reduceAdd, Int.reduceSub, Int.reduceMul, Int.reduceNeg]))
  (ho : o.op = .convert src dst x := by rfl)
  (h1 : P.underlying src = some (.slice e) := by (simp only [push_cast] <;> rfl))
  (h2 : P.underlying dst = some .string := by (simp only [push_cast] <;> rfl))
  (h3 : P.underlying e = some (.int .u8) := by (simp only [push_cast] <;> rfl))
  (hx : ev X x = .msl m off n 1 := by (simp only [push_cast, reduceCtorEq, Nat.reduceAdd, Nat.reduceSub, Nat.reduceMul, Nat.reduceEqDiff, Nat.reduceLT, Nat.reduceLeDiff, Nat.reduceMod, Nat.reduceDiv, Int.reduceLE, Int.reduceLT, Int.reduceEq, Int.reduceToNat, Int.reduceAdd, Int.reduceSub, Int.reduceMul, Int.reduceNeg] <;> rfl))
  (hm' : X.hp m = some ob := by (simp only [push_cast, reduceCtorEq, Nat.reduceAdd, Nat.reduceSub, Nat.reduceMul, Nat.reduceEqDiff, Nat.reduceLT, Nat.reduceLeDiff, Nat.reduceMod, Nat.reduceDiv, Int.reduceLE, Int.reduceLT, Int.reduceEq, Int.reduceToNat, Int.reduceAdd, Int.reduceSub, Int.reduceMul, Int.reduceNeg] <;> rfl))
  (hok : okbs ((ob.cells.drop off).take n) := by (simp (disch := first | omega | (simp only [List.length_drop, List.length_take, List.length_map, List.length_append, List.length_cons, List.length_nil, List.length_replicate, List.length_set] <;> omega) | (simp only [push_cast] <;> omega) | fail) only [push_cast, unb_map_nil, unb_map_cons, unb_map_app, reduceCtorEq, Nat.reduceAdd, Nat.reduceSub, Nat.reduceMul, Nat.reduceEqDiff, Nat.reduceLT, Nat.reduceLeDiff, Nat.reduceMod, Nat.reduceDiv, Int.reduceLE, Int.reduceLT, Int.reduceEq, Int.reduceToNat, Int.reduceAdd, Int.reduceSub, Int.reduceMul, Int.reduceNeg] <;> (try simp only [okb_int]) <;> (try omega)))
  (hl : ((ob.cells.drop off).take n).map unb = l := by (simp (disch := first | omega | (simp only [List.length_drop, List.length_take, List.length_map, List.length_append, List.length_cons, List.length_nil, List.length_replicate, List.length_set] <;> omega) | (simp only [push_cast] <;> omega) | fail) only [push_cast, unb_map_nil, unb_map_cons, unb_map_app, reduceCtorEq, Nat.reduceAdd, Nat.reduceSub, Nat.reduceMul, Nat.reduceEqDiff, Nat.reduceLT, Nat.reduceLeDiff, Nat.reduceMod, Nat.reduceDiv, Int.reduceLE, Int.reduceLT, Int.reduceEq, Int.reduceToNat, Int.reduceAdd, Int.reduceSub, Int.reduceMul, Int.reduceNeg] <;> rfl))
  (hle : off + n ≤ ob.cells.length := by (first | omega | (simp only [push_cast, List.length_cons, List.length_nil, List.length_map, List.length_append, reduceCtorEq, Nat.reduceAdd, Nat.reduceSub, Nat.reduceMul, Nat.reduceEqDiff, Nat.reduceLT, Nat.reduceLeDiff, Nat.reduceMod, Nat.reduceDiv, Int.reduceLE, Int.reduceLT, Int.reduceEq, Int.reduceToNat, Int.reduceAdd, Int.reduceSub, Int.reduceMul, Int.reduceNeg] <;> (try omega))))
  (hX : X.app o.dst { val := .t (.v (.string (S l))), F := [m] } = X' := by (simp only [push_cast, reduceCtorEq, Nat.reduceAdd, Nat.reduceEqDiff] <;> rfl))
  (hi : i + 1 = i' := by (simp only [Nat.reduceAdd] <;> rfl)) : wpS Γ P ops rid i (o :: os) X [] (regK ops' false Q) := s_by0 hg hs (spec_text_msl src dst x ho h1 h2 h3 hx hm' hok hl hle) (fun _ => rfl) hX hi h

theorem a_texts {src dst e : TypeId} {x : Operand} {l : List UInt8} {X' : St} {i' : Nat} (h : wpS Γ P ops rid i' os X' [] (regK ops' false Q)) (hg : o.guard = none := by rfl)
  (hs : stepF P rid i X o = none := by (simp only [push_cast, reduceCtorEq, Nat.reduceAdd, Nat.reduceSub, Nat.reduceMul, Nat.reduceEqDiff, Nat.reduceLT, Nat.reduceLeDiff, Nat.reduceMod, Nat.reduceDiv, Int.reduceLE, Int.reduceLT, Int.reduceEq, Int.reduceToNat, Int.reduceAdd, Int.reduceSub, Int.reduceMul, Int.reduceNeg]))
  (ho : o.op = .convert src dst x := by rfl)
  (h1 : P.underlying src = some (.slice e) := by (simp only [push_cast] <;> rfl))
  (h2 : P.underlying dst = some .string := by (simp only [push_cast] <;> rfl))
  (h3 : P.underlying e = some (.int .u8) := by (simp only [push_cast] <;> rfl))
  (hx : ev X x = .t (.sl l.length (l.map w8)) := by (simp only [push_cast, reduceCtorEq, Nat.reduceAdd, Nat.reduceSub, Nat.reduceMul, Nat.reduceEqDiff, Nat.reduceLT, Nat.reduceLeDiff, Nat.reduceMod, Nat.reduceDiv, Int.reduceLE, Int.reduceLT, Int.reduceEq, Int.reduceToNat, Int.reduceAdd, Int.reduceSub, Int.reduceMul, Int.reduceNeg] <;> rfl))
  (hX : X.app o.dst { val := .t (.v (.string (S l))) } = X' := by (simp only [push_cast, reduceCtorEq, Nat.reduceAdd, Nat.reduceEqDiff] <;> rfl))
  (hi : i + 1 = i' := by (simp only [Nat.reduceAdd] <;> rfl)) : wpS Γ P ops rid i (o :: os) X [] (regK ops' false Q) := s_by0 hg hs (spec_text_sl src dst x ho h1 h2 h3 hx) (fun _ => rfl) hX hi h

theorem a_textgo {gi : Nat} {want : Bool} {src dst e : TypeId} {x : Operand} {m : Nm} {off n : Nat} {ob : Ob} {l : List UInt8} {X' : St} {i' : Nat} (h : wpS Γ P ops rid i' os X' [] (regK ops' false Q)) (hg : o.guard = some (gi, want) := by rfl)
  (hb : wantIs (gslot ops X gi) want = some true := by (simp only [gslot, Option.bind_some, push_cast, reduceCtorEq, Nat.reduceAdd, Nat.reduceSub, Nat.reduceMul, Nat.reduceEqDiff, Nat.reduceLT, Nat.reduceLeDiff, Nat.reduceMod, Nat.reduceDiv, Int.reduceLE, Int.reduceLT, Int.reduceEq, Int.reduceToNat, Int.reduceAdd, Int.reduceSub, Int.reduceMul, Int.reduceNeg] <;> rfl))
  (hs : stepF P rid i X o = none := by (simp only [push_cast, reduceCtorEq, Nat.reduceAdd, Nat.reduceSub, Nat.reduceMul, Nat.reduceEqDiff, Nat.reduceLT, Nat.reduceLeDiff, Nat.reduceMod, Nat.reduceDiv, Int.reduceLE, Int.reduceLT, Int.reduceEq, Int.reduceToNat, Int.reduceAdd, Int.reduceSub, Int.reduceMul, Int.reduceNeg]))
  (ho : o.op = .convert src dst x := by rfl)
  (h1 : P.underlying src = some (.slice e) := by (simp only [push_cast] <;> rfl))
  (h2 : P.underlying dst = some .string := by (simp only [push_cast] <;> rfl))
  (h3 : P.underlying e = some (.int .u8) := by (simp only [push_cast] <;> rfl))
  (hx : ev X x = .msl m off n 1 := by (simp only [push_cast, reduceCtorEq, Nat.reduceAdd, Nat.reduceSub, Nat.reduceMul, Nat.reduceEqDiff, Nat.reduceLT, Nat.reduceLeDiff, Nat.reduceMod, Nat.reduceDiv, Int.reduceLE, Int.reduceLT, Int.reduceEq, Int.reduceToNat, Int.reduceAdd, Int.reduceSub, Int.reduceMul, Int.reduceNeg] <;> rfl))
  (hm' : X.hp m = some ob := by (simp only [push_cast, reduceCtorEq, Nat.reduceAdd, Nat.reduceSub, Nat.reduceMul, Nat.reduceEqDiff, Nat.reduceLT, Nat.reduceLeDiff, Nat.reduceMod, Nat.reduceDiv, Int.reduceLE, Int.reduceLT, Int.reduceEq, Int.reduceToNat, Int.reduceAdd, Int.reduceSub, Int.reduceMul, Int.reduceNeg] <;> rfl))
  (hok : okbs ((ob.cells.drop off).take n) := by (simp (disch := first | omega | (simp only [List.length_drop, List.length_take, List.length_map, List.length_append, List.length_cons, List.length_nil, List.length_replicate, List.length_set] <;> omega) | (simp only [push_cast] <;> omega) | fail) only [push_cast, unb_map_nil, unb_map_cons, unb_map_app, reduceCtorEq, Nat.reduceAdd, Nat.reduceSub, Nat.reduceMul, Nat.reduceEqDiff, Nat.reduceLT, Nat.reduceLeDiff, Nat.reduceMod, Nat.reduceDiv, Int.reduceLE, Int.reduceLT, Int.reduceEq, Int.reduceToNat, Int.reduceAdd, Int.reduceSub, Int.reduceMul, Int.reduceNeg] <;> (try simp only [okb_int]) <;> (try omega)))
  (hl : ((ob.cells.drop off).take n).map unb = l := by (simp (disch := first | omega | (simp only [List.length_drop, List.length_take, List.length_map, List.length_append, List.length_cons, List.length_nil, List.length_replicate, List.length_set] <;> omega) | (simp only [push_cast] <;> omega) | fail) only [push_cast, unb_map_nil, unb_map_cons, unb_map_app, reduceCtorEq, Nat.reduceAdd, Nat.reduceSub, Nat.reduceMul, Nat.reduceEqDiff, Nat.reduceLT, Nat.reduceLeDiff, Nat.reduceMod, Nat.reduceDiv, Int.reduceLE, Int.reduceLT, Int.reduceEq, Int.reduceToNat, Int.reduceAdd, Int.reduceSub, Int.reduceMul, Int.reduceNeg] <;> rfl))
  (hle : off + n ≤ ob.cells.length := by (first | omega | (simp only [push_cast, List.length_cons, List.length_nil, List.length_map, List.length_append, reduceCtorEq, Nat.reduceAdd, Nat.reduceSub, Nat.reduceMul, Nat.reduceEqDiff, Nat.reduceLT, Nat.reduceLeDiff, Nat.reduceMod, Nat.reduceDiv, Int.reduceLE, Int.reduceLT, Int.reduceEq, Int.reduceToNat, Int.reduceAdd, Int.reduceSub, Int.reduceMul, Int.reduceNeg] <;> (try omega))))
  (hX : X.app o.dst { val := .t (.v (.string (S l))), F := [m] } = X' := by (simp only [push_cast, reduceCtorEq, Nat.reduceAdd, Nat.reduceEqDiff] <;> rfl))
  (hi : i + 1 = i' := by (simp only [Nat.reduceAdd] <;> rfl)) : wpS Γ P ops rid i (o :: os) X [] (regK ops' false Q) := s_by_if0 hg hb hs (spec_text_msl src dst x ho h1 h2 h3 hx hm' hok hl hle) (fun _ => rfl) hX hi h

theorem a_textsgo {gi : Nat} {want : Bool} {src dst e : TypeId} {x : Operand} {l : List UInt8} {X' : St} {i' : Nat} (h : wpS Γ P ops rid i' os X' [] (regK ops' false Q)) (hg : o.guard = some (gi, want) := by rfl)
  (hb : wantIs (gslot ops X gi) want = some true := by (simp only [gslot, Option.bind_some, push_cast, reduceCtorEq, Nat.reduceAdd, Nat.reduceSub, Nat.reduceMul, Nat.reduceEqDiff, Nat.reduceLT, Nat.reduceLeDiff, Nat.reduceMod, Nat.reduceDiv, Int.reduceLE, Int.reduceLT, Int.reduceEq, Int.reduceToNat, Int.reduceAdd, Int.reduceSub, Int.reduceMul, Int.reduceNeg] <;> rfl))
  (hs : stepF P rid i X o = none := by (simp only [push_cast, reduceCtorEq, Nat.reduceAdd, Nat.reduceSub, Nat.reduceMul, Nat.reduceEqDiff, Nat.reduceLT, Nat.reduceLeDiff, Nat.reduceMod, Nat.reduceDiv, Int.reduceLE, Int.reduceLT, Int.reduceEq, Int.reduceToNat, Int.reduceAdd, Int.reduceSub, Int.reduceMul, Int.reduceNeg]))
  (ho : o.op = .convert src dst x := by rfl)
  (h1 : P.underlying src = some (.slice e) := by (simp only [push_cast] <;> rfl))
  (h2 : P.underlying dst = some .string := by (simp only [push_cast] <;> rfl))
  (h3 : P.underlying e = some (.int .u8) := by (simp only [push_cast] <;> rfl))
  (hx : ev X x = .t (.sl l.length (l.map w8)) := by (simp only [push_cast, reduceCtorEq, Nat.reduceAdd, Nat.reduceSub, Nat.reduceMul, Nat.reduceEqDiff, Nat.reduceLT, Nat.reduceLeDiff, Nat.reduceMod, Nat.reduceDiv, Int.reduceLE, Int.reduceLT, Int.reduceEq, Int.reduceToNat, Int.reduceAdd, Int.reduceSub, Int.reduceMul, Int.reduceNeg] <;> rfl))
  (hX : X.app o.dst { val := .t (.v (.string (S l))) } = X' := by (simp only [push_cast, reduceCtorEq, Nat.reduceAdd, Nat.reduceEqDiff] <;> rfl))
  (hi : i + 1 = i' := by (simp only [Nat.reduceAdd] <;> rfl)) : wpS Γ P ops rid i (o :: os) X [] (regK ops' false Q) := s_by_if0 hg hb hs (spec_text_sl src dst x ho h1 h2 h3 hx) (fun _ => rfl) hX hi h

theorem a_cv8 {src dst : TypeId} {x : Operand} {k : IntKind} {n : Int} {X' : St} {i' : Nat} (h : wpS Γ P ops rid i' os X' [] (regK ops' false Q)) (hg : o.guard = none := by rfl)
  (ho : o.op = .convert src dst x := by rfl)
  (hx : ev X x = .t (.v (.int k n)) := by (simp only [push_cast, reduceCtorEq, Nat.reduceAdd, Nat.reduceSub, Nat.reduceMul, Nat.reduceEqDiff, Nat.reduceLT, Nat.reduceLeDiff, Nat.reduceMod, Nat.reduceDiv, Int.reduceLE, Int.reduceLT, Int.reduceEq, Int.reduceToNat, Int.reduceAdd, Int.reduceSub, Int.reduceMul, Int.reduceNeg] <;> rfl))
  (h1 : (P.underlying src).isSome = true := by (simp only [push_cast]))
  (h2 : P.underlying dst = some (.int .u8) := by (simp only [push_cast] <;> rfl))
  (hX : X.app o.dst { val := .t (w8 (UInt8.ofInt n)) } = X' := by (simp only [push_cast, reduceCtorEq, Nat.reduceAdd, Nat.reduceEqDiff] <;> rfl))
  (hi : i + 1 = i' := by (simp only [Nat.reduceAdd] <;> rfl)) : wpS Γ P ops rid i (o :: os) X [] (regK ops' false Q) := s_op0 (c := (P.underlying src).isSome = true) hg (by simp only [stepF, ho, hx, h2, wi8]; rfl) h1 hX hi h

theorem a_cv32 {src dst : TypeId} {x : Operand} {k : IntKind} {n : Int} {X' : St} {i' : Nat} (h : wpS Γ P ops rid i' os X' [] (regK ops' false Q)) (hg : o.guard = none := by rfl)
  (ho : o.op = .convert src dst x := by rfl)
  (hx : ev X x = .t (.v (.int k n)) := by (simp only [push_cast, reduceCtorEq, Nat.reduceAdd, Nat.reduceSub, Nat.reduceMul, Nat.reduceEqDiff, Nat.reduceLT, Nat.reduceLeDiff, Nat.reduceMod, Nat.reduceDiv, Int.reduceLE, Int.reduceLT, Int.reduceEq, Int.reduceToNat, Int.reduceAdd, Int.reduceSub, Int.reduceMul, Int.reduceNeg] <;> rfl))
  (h1 : (P.underlying src).isSome = true := by (simp only [push_cast]))
  (h2 : P.underlying dst = some (.int .u32) := by (simp only [push_cast] <;> rfl))
  (hX : X.app o.dst { val := .t (w32 (UInt32.ofInt n)) } = X' := by (simp only [push_cast, reduceCtorEq, Nat.reduceAdd, Nat.reduceEqDiff] <;> rfl))
  (hi : i + 1 = i' := by (simp only [Nat.reduceAdd] <;> rfl)) : wpS Γ P ops rid i (o :: os) X [] (regK ops' false Q) := s_op0 (c := (P.underlying src).isSome = true) hg (by simp only [stepF, ho, hx, h2, wi32]; rfl) h1 hX hi h

theorem a_cv64 {src dst : TypeId} {x : Operand} {k : IntKind} {n : Int} {X' : St} {i' : Nat} (h : wpS Γ P ops rid i' os X' [] (regK ops' false Q)) (hg : o.guard = none := by rfl)
  (ho : o.op = .convert src dst x := by rfl)
  (hx : ev X x = .t (.v (.int k n)) := by (simp only [push_cast, reduceCtorEq, Nat.reduceAdd, Nat.reduceSub, Nat.reduceMul, Nat.reduceEqDiff, Nat.reduceLT, Nat.reduceLeDiff, Nat.reduceMod, Nat.reduceDiv, Int.reduceLE, Int.reduceLT, Int.reduceEq, Int.reduceToNat, Int.reduceAdd, Int.reduceSub, Int.reduceMul, Int.reduceNeg] <;> rfl))
  (h1 : (P.underlying src).isSome = true := by (simp only [push_cast]))
  (h2 : P.underlying dst = some (.int .u64) := by (simp only [push_cast] <;> rfl))
  (hX : X.app o.dst { val := .t (w64 (UInt64.ofInt n)) } = X' := by (simp only [push_cast, reduceCtorEq, Nat.reduceAdd, Nat.reduceEqDiff] <;> rfl))
  (hi : i + 1 = i' := by (simp only [Nat.reduceAdd] <;> rfl)) : wpS Γ P ops rid i (o :: os) X [] (regK ops' false Q) := s_op0 (c := (P.underlying src).isSome = true) hg (by simp only [stepF, ho, hx, h2, wi64]; rfl) h1 hX hi h

theorem a_textd {src dst e : TypeId} {x : Operand} {m : Nm} {off n : Nat} {ob : Ob} {l : List UInt8} {X' : St} {ms : Meta} {i' : Nat} (h : wpS Γ P ops rid i' os X' (acc ++ [ms]) (regK ops' draw Q)) (hg : o.guard = none := by rfl)
  (hs : stepF P rid i X o = none := by (simp only [push_cast, reduceCtorEq, Nat.reduceAdd, Nat.reduceSub, Nat.reduceMul, Nat.reduceEqDiff, Nat.reduceLT, Nat.reduceLeDiff, Nat.reduceMod, Nat.reduceDiv, Int.reduceLE, Int.reduceLT, Int.reduceEq, Int.reduceToNat, Int.reduceAdd, Int.reduceSub, Int.reduceMul, Int.reduceNeg]))
  (ho : o.op = .convert src dst x := by rfl)
  (h1 : P.underlying src = some (.slice e) := by (simp only [push_cast] <;> rfl))
  (h2 : P.underlying dst = some .string := by (simp only [push_cast] <;> rfl))
  (h3 : P.underlying e = some (.int .u8) := by (simp only [push_cast] <;> rfl))
  (hx : ev X x = .msl m off n 1 := by (simp only [push_cast, reduceCtorEq, Nat.reduceAdd, Nat.reduceSub, Nat.reduceMul, Nat.reduceEqDiff, Nat.reduceLT, Nat.reduceLeDiff, Nat.reduceMod, Nat.reduceDiv, Int.reduceLE, Int.reduceLT, Int.reduceEq, Int.reduceToNat, Int.reduceAdd, Int.reduceSub, Int.reduceMul, Int.reduceNeg] <;> rfl))
  (hm' : X.hp m = some ob := by (simp only [push_cast, reduceCtorEq, Nat.reduceAdd, Nat.reduceSub, Nat.reduceMul, Nat.reduceEqDiff, Nat.reduceLT, Nat.reduceLeDiff, Nat.reduceMod, Nat.reduceDiv, Int.reduceLE, Int.reduceLT, Int.reduceEq, Int.reduceToNat, Int.reduceAdd, Int.reduceSub, Int.reduceMul, Int.reduceNeg] <;> rfl))
  (hok : okbs ((ob.cells.drop off).take n) := by (simp (disch := first | omega | (simp only [List.length_drop, List.length_take, List.length_map, List.length_append, List.length_cons, List.length_nil, List.length_replicate, List.length_set] <;> omega) | (simp only [push_cast] <;> omega) | fail) only [push_cast, unb_map_nil, unb_map_cons, unb_map_app, reduceCtorEq, Nat.reduceAdd, Nat.reduceSub, Nat.reduceMul, Nat.reduceEqDiff, Nat.reduceLT, Nat.reduceLeDiff, Nat.reduceMod, Nat.reduceDiv, Int.reduceLE, Int.reduceLT, Int.reduceEq, Int.reduceToNat, Int.reduceAdd, Int.reduceSub, Int.reduceMul, Int.reduceNeg] <;> (try simp only [okb_int]) <;> (try omega)))
  (hl : ((ob.cells.drop off).take n).map unb = l := by (simp (disch := first | omega | (simp only [List.length_drop, List.length_take, List.length_map, List.length_append, List.length_cons, List.length_nil, List.length_replicate, List.length_set] <;> omega) | (simp only [push_cast] <;> omega) | fail) only [push_cast, unb_map_nil, unb_map_cons, unb_map_app, reduceCtorEq, Nat.reduceAdd, Nat.reduceSub, Nat.reduceMul, Nat.reduceEqDiff, Nat.reduceLT, Nat.reduceLeDiff, Nat.reduceMod, Nat.reduceDiv, Int.reduceLE, Int.reduceLT, Int.reduceEq, Int.reduceToNat, Int.reduceAdd, Int.reduceSub, Int.reduceMul, Int.reduceNeg] <;> rfl))
  (hle : off + n ≤ ob.cells.length := by (first | omega | (simp only [push_cast, List.length_cons, List.length_nil, List.length_map, List.length_append, reduceCtorEq, Nat.reduceAdd, Nat.reduceSub, Nat.reduceMul, Nat.reduceEqDiff, Nat.reduceLT, Nat.reduceLeDiff, Nat.reduceMod, Nat.reduceDiv, Int.reduceLE, Int.reduceLT, Int.reduceEq, Int.reduceToNat, Int.reduceAdd, Int.reduceSub, Int.reduceMul, Int.reduceNeg] <;> (try omega))))
  (hX : X.app o.dst { val := .t (.v (.string (S l))), F := [m] } = X' := by (simp only [push_cast, reduceCtorEq, Nat.reduceAdd, Nat.reduceEqDiff] <;> rfl))
  (hm : (Rec.info { val := .t (.v (.string (S l))), F := [m] }) = ms := by (simp only [Rec.info, push_cast, reduceCtorEq, Nat.reduceAdd, Nat.reduceEqDiff] <;> rfl))
  (hi : i + 1 = i' := by (simp only [Nat.reduceAdd] <;> rfl)) : wpS Γ P ops rid i (o :: os) X acc (regK ops' draw Q) := s_by hg hs (spec_text_msl src dst x ho h1 h2 h3 hx hm' hok hl hle) (fun _ => rfl) hX hm hi h

theorem a_textsd {src dst e : TypeId} {x : Operand} {l : List UInt8} {X' : St} {ms : Meta} {i' : Nat} (h : wpS Γ P ops rid i' os X' (acc ++ [ms]) (regK ops' draw Q)) (hg : o.guard = none := by rfl)
  (hs : stepF P rid i X o = none := by (simp only [push_cast, reduceCtorEq, Nat.reduceAdd, Nat.reduceSub, Nat.reduceMul, Nat.reduceEqDiff, Nat.reduceLT, Nat.reduceLeDiff, Nat.reduceMod, Nat.reduceDiv, Int.reduceLE, Int.reduceLT, Int.reduceEq, Int.reduceToNat, Int.reduceAdd, Int.reduceSub, Int.reduceMul, Int.reduceNeg]))
  (ho : o.op = .convert src dst x := by rfl)
  (h1 : P.underlying src = some (.slice e) := by (simp only [push_cast] <;> rfl))
  (h2 : P.underlying dst = some .string := by (simp only [push_cast] <;> rfl))
  (h3 : P.underlying e = some (.int .u8) := by (simp only [push_cast] <;> rfl))
  (hx : ev X x = .t (.sl l.length (l.map w8)) := by (simp only [push_cast, reduceCtorEq, Nat.reduceAdd, Nat.reduceSub, Nat.reduceMul, Nat.reduceEqDiff, Nat.reduceLT, Nat.reduceLeDiff, Nat.reduceMod, Nat.reduceDiv, Int.reduceLE, Int.reduceLT, Int.reduceEq, Int.reduceToNat, Int.reduceAdd, Int.reduceSub, Int.reduceMul, Int.reduceNeg] <;> rfl))
  (hX : X.app o.dst { val := .t (.v (.string (S l))) } = X' := by (simp only [push_cast, reduceCtorEq, Nat.reduceAdd, Nat.reduceEqDiff] <;> rfl))
  (hm : (Rec.info { val := .t (.v (.string (S l))) }) = ms := by (simp only [Rec.info, push_cast, reduceCtorEq, Nat.reduceAdd, Nat.reduceEqDiff] <;> rfl))
  (hi : i + 1 = i' := by (simp only [Nat.reduceAdd] <;> rfl)) : wpS Γ P ops rid i (o :: os) X acc (regK ops' draw Q) := s_by hg hs (spec_text_sl src dst x ho h1 h2 h3 hx) (fun _ => rfl) hX hm hi h

theorem a_textgod {gi : Nat} {want : Bool} {src dst e : TypeId} {x : Operand} {m : Nm} {off n : Nat} {ob : Ob} {l : List UInt8} {X' : St} {ms : Meta} {i' : Nat} (h : wpS Γ P ops rid i' os X' (acc ++ [ms]) (regK ops' draw Q)) (hg : o.guard = some (gi, want) := by rfl)
  (hb : wantIs (gslot ops X gi) want = some true := by (simp only [gslot, Option.bind_some, push_cast, reduceCtorEq, Nat.reduceAdd, Nat.reduceSub, Nat.reduceMul, Nat.reduceEqDiff, Nat.reduceLT, Nat.reduceLeDiff, Nat.reduceMod, Nat.reduceDiv, Int.reduceLE, Int.reduceLT, Int.reduceEq, Int.reduceToNat, Int.reduceAdd, Int.reduceSub, Int.reduceMul, Int.reduceNeg] <;> rfl))
  (hs : stepF P rid i X o = none := by (simp only [push_cast, reduceCtorEq, Nat.reduceAdd, Nat.reduceSub, Nat.reduceMul, Nat.reduceEqDiff, Nat.reduceLT, Nat.reduceLeDiff, Nat.reduceMod, Nat.reduceDiv, Int.reduceLE, Int.reduceLT, Int.reduceEq, Int.reduceToNat, Int.reduceAdd, Int.reduceSub, Int.reduceMul, Int.reduceNeg]))
  (ho : o.op = .convert src dst x := by rfl)
  (h1 : P.underlying src = some (.slice e) := by (simp only [push_cast] <;> rfl))
  (h2 : P.underlying dst = some .string := by (simp only [push_cast] <;> rfl))
  (h3 : P.underlying e = some (.int .u8) := by (simp only [push_cast] <;> rfl))
  (hx : ev X x = .msl m off n 1 := by (simp only [push_cast, reduceCtorEq, Nat.reduceAdd, Nat.reduceSub, Nat.reduceMul, Nat.reduceEqDiff, Nat.reduceLT, Nat.reduceLeDiff, Nat.reduceMod, Nat.reduceDiv, Int.reduceLE, Int.reduceLT, Int.reduceEq, Int.reduceToNat, Int.reduceAdd, Int.reduceSub, Int.reduceMul, Int.reduceNeg] <;> rfl))
  (hm' : X.hp m = some ob := by (simp only [push_cast, reduceCtorEq, Nat.reduceAdd, Nat.reduceSub, Nat.reduceMul, Nat.reduceEqDiff, Nat.reduceLT, Nat.reduceLeDiff, Nat.reduceMod, Nat.reduceDiv, Int.reduceLE, Int.reduceLT, Int.reduceEq, Int.reduceToNat, Int.reduceAdd, Int.reduceSub, Int.reduceMul, Int.reduceNeg] <;> rfl))
  (hok : okbs ((ob.cells.drop off).take n) := by (simp (disch := first | omega | (simp only [List.length_drop, List.length_take, List.length_map, List.length_append, List.length_cons, List.length_nil, List.length_replicate, List.length_set] <;> omega) | (simp only [push_cast] <;> omega) | fail) only [push_cast, unb_map_nil, unb_map_cons, unb_map_app, reduceCtorEq, Nat.reduceAdd, Nat.reduceSub, Nat.reduceMul, Nat.reduceEqDiff, Nat.reduceLT, Nat.reduceLeDiff, Nat.reduceMod, Nat.reduceDiv, Int.reduceLE, Int.reduceLT, Int.reduceEq, Int.reduceToNat, Int.reduceAdd, Int.reduceSub, Int.reduceMul, Int.reduceNeg] <;> (try simp only [okb_int]) <;> (try omega)))
  (hl : ((ob.cells.drop off).take n).map unb = l := by (simp (disch := first | omega | (simp only [List.length_drop, List.length_take, List.length_map, List.length_append, List.length_cons, List.length_nil, List.length_replicate, List.length_set] <;> omega) | (simp only [push_cast] <;> omega) | fail) only [push_cast, unb_map_nil, unb_map_cons, unb_map_app, reduceCtorEq, Nat.reduceAdd, Nat.reduceSub, Nat.reduceMul, Nat.reduceEqDiff, Nat.reduceLT, Nat.reduceLeDiff, Nat.reduceMod, Nat.reduceDiv, Int.reduceLE, Int.reduceLT, Int.reduceEq, Int.reduceToNat, Int.reduceAdd, Int.reduceSub, Int.reduceMul, Int.reduceNeg] <;> rfl))
  (hle : off + n ≤ ob.cells.length := by (first | omega | (simp only [push_cast, List.length_cons, List.length_nil, List.length_map, List.length_append, reduceCtorEq, Nat.reduceAdd, Nat.reduceSub, Nat.reduceMul, Nat.reduceEqDiff, Nat.reduceLT, Nat.reduceLeDiff, Nat.reduceMod, Nat.reduceDiv, Int.reduceLE, Int.reduceLT, Int.reduceEq, Int.reduceToNat, Int.reduceAdd, Int.reduceSub, Int.reduceMul, Int.reduceNeg] <;> (try omega))))
  (hX : X.app o.dst { val := .t (.v (.string (S l))), F := [m] } = X' := by (simp only [push_cast, reduceCtorEq, Nat.reduceAdd, Nat.reduceEqDiff] <;> rfl))
  (hm : (Rec.info { val := .t (.v (.string (S l))), F := [m] }) = ms := by (simp only [Rec.info, push_cast, reduceCtorEq, Nat.reduceAdd, Nat.reduceEqDiff] <;> rfl))
  (hi : i + 1 = i' := by (simp only [Nat.reduceAdd] <;> rfl)) : wpS Γ P ops rid i (o :: os) X acc (regK ops' draw Q) := s_by_if hg hb hs (spec_text_msl src dst x ho h1 h2 h3 hx hm' hok hl hle) (fun _ => rfl) hX hm hi h

theorem a_textsgod {gi : Nat} {want : Bool} {src dst e : TypeId} {x : Operand} {l : List UInt8} {X' : St} {ms : Meta} {i' : Nat} (h : wpS Γ P ops rid i' os X' (acc ++ [ms]) (regK ops' draw Q)) (hg : o.guard = some (gi, want) := by rfl)
  (hb : wantIs (gslot ops X gi) want = some true := by (simp only [gslot, Option.bind_some, push_cast, reduceCtorEq, Nat.reduceAdd, Nat.reduceSub, Nat.reduceMul, Nat.reduceEqDiff, Nat.reduceLT, Nat.reduceLeDiff, Nat.reduceMod, Nat.reduceDiv, Int.reduceLE, Int.reduceLT, Int.reduceEq, Int.reduceToNat, Int.reduceAdd, Int.reduceSub, Int.reduceMul, Int.reduceNeg] <;> rfl))
  (hs : stepF P rid i X o = none := by (simp only [push_cast, reduceCtorEq, Nat.reduceAdd, Nat.reduceSub, Nat.reduceMul, Nat.reduceEqDiff, Nat.reduceLT, Nat.reduceLeDiff, Nat.reduceMod, Nat.reduceDiv, Int.reduceLE, Int.reduceLT, Int.reduceEq, Int.reduceToNat, Int.reduceAdd, Int.reduceSub, Int.reduceMul, Int.reduceNeg]))
  (ho : o.op = .convert src dst x := by rfl)
  (h1 : P.underlying src = some (.slice e) := by (simp only [push_cast] <;> rfl))
  (h2 : P.underlying dst = some .string := by (simp only [push_cast] <;> rfl))
  (h3 : P.underlying e = some (.int .u8) := by (simp only [push_cast] <;> rfl))
  (hx : ev X x = .t (.sl l.length (l.map w8)) := by (simp only [push_cast, reduceCtorEq, Nat.reduceAdd, Nat.reduceSub, Nat.reduceMul, Nat.reduceEqDiff, Nat.reduceLT, Nat.reduceLeDiff, Nat.reduceMod, Nat.reduceDiv, Int.reduceLE, Int.reduceLT, Int.reduceEq, Int.reduceToNat, Int.reduceAdd, Int.reduceSub, Int.reduceMul, Int.reduceNeg] <;> rfl))
  (hX : X.app o.dst { val := .t (.v (.string (S l))) } = X' := by (simp only [push_cast, reduceCtorEq, Nat.reduceAdd, Nat.reduceEqDiff] <;> rfl))
  (hm : (Rec.info { val := .t (.v (.string (S l))) }) = ms := by (simp only [Rec.info, push_cast, reduceCtorEq, Nat.reduceAdd, Nat.reduceEqDiff] <;> rfl))
  (hi : i + 1 = i' := by (simp only [Nat.reduceAdd] <;> rfl)) : wpS Γ P ops rid i (o :: os) X acc (regK ops' draw Q) := s_by_if hg hb hs (spec_text_sl src dst x ho h1 h2 h3 hx) (fun _ => rfl) hX hm hi h

theorem a_cv8d {src dst : TypeId} {x : Operand} {k : IntKind} {n : Int} {X' : St} {ms : Meta} {i' : Nat} (h : wpS Γ P ops rid i' os X' (acc ++ [ms]) (regK ops' draw Q)) (hg : o.guard = none := by rfl)
  (ho : o.op = .convert src dst x := by rfl)
  (hx : ev X x = .t (.v (.int k n)) := by (simp only [push_cast, reduceCtorEq, Nat.reduceAdd, Nat.reduceSub, Nat.reduceMul, Nat.reduceEqDiff, Nat.reduceLT, Nat.reduceLeDiff, Nat.reduceMod, Nat.reduceDiv, Int.reduceLE, Int.reduceLT, Int.reduceEq, Int.reduceToNat, Int.reduceAdd, Int.reduceSub, Int.reduceMul, Int.reduceNeg] <;> rfl))
  (h1 : (P.underlying src).isSome = true := by (simp only [push_cast]))
  (h2 : P.underlying dst = some (.int .u8) := by (simp only [push_cast] <;> rfl))
  (hX : X.app o.dst { val := .t (w8 (UInt8.ofInt n)) } = X' := by (simp only [push_cast, reduceCtorEq, Nat.reduceAdd, Nat.reduceEqDiff] <;> rfl))
  (hm : (Rec.info { val := .t (w8 (UInt8.ofInt n)) }) = ms := by (simp only [Rec.info, push_cast, reduceCtorEq, Nat.reduceAdd, Nat.reduceEqDiff] <;> rfl))
  (hi : i + 1 = i' := by (simp only [Nat.reduceAdd] <;> rfl)) : wpS Γ P ops rid i (o :: os) X acc (regK ops' draw Q) := s_op (c := (P.underlying src).isSome = true) hg (by simp only [stepF, ho, hx, h2, wi8]; rfl) h1 hX hm hi h

theorem a_cv32d {src dst : TypeId} {x : Operand} {k : IntKind} {n : Int} {X' : St} {ms : Meta} {i' : Nat} (h : wpS Γ P ops rid i' os X' (acc ++ [ms]) (regK ops' draw Q)) (hg : o.guard = none := by rfl)
  (ho : o.op = .convert src dst x := by rfl)
  (hx : ev X x = .t (.v (.int k n)) := by (simp only [push_cast, reduceCtorEq, Nat.reduceAdd, Nat.reduceSub, Nat.reduceMul, Nat.reduceEqDiff, Nat.reduceLT, Nat.reduceLeDiff, Nat.reduceMod, Nat.reduceDiv, Int.reduceLE, Int.reduceLT, Int.reduceEq, Int.reduceToNat, Int.reduceAdd, Int.reduceSub, Int.reduceMul, Int.reduceNeg] <;> rfl))
  (h1 : (P.underlying src).isSome = true := by (simp only [push_cast]))
  (h2 : P.underlying dst = some (.int .u32) := by (simp only [push_cast] <;> rfl))
  (hX : X.app o.dst { val := .t (w32 (UInt32.ofInt n)) } = X' := by (simp only [push_cast, reduceCtorEq, Nat.reduceAdd, Nat.reduceEqDiff] <;> rfl))
  (hm : (Rec.info { val := .t (w32 (UInt32.ofInt n)) }) = ms := by (simp only [Rec.info, push_cast, reduceCtorEq, Nat.reduceAdd, Nat.reduceEqDiff] <;> rfl))
  (hi : i + 1 = i' := by (simp only [Nat.reduceAdd] <;> rfl)) : wpS Γ P ops rid i (o :: os) X acc (regK ops' draw Q) := s_op (c := (P.underlying src).isSome = true) hg (by simp only [stepF, ho, hx, h2, wi32]; rfl) h1 hX hm hi h

theorem a_cv64d {src dst : TypeId} {x : Operand} {k : IntKind} {n : Int} {X' : St} {ms : Meta} {i' : Nat} (h : wpS Γ P ops rid i' os X' (acc ++ [ms]) (regK ops' draw Q)) (hg : o.guard = none := by rfl)
  (ho : o.op = .convert src dst x := by rfl)
  (hx : ev X x = .t (.v (.int k n)) := by (simp only [push_cast, reduceCtorEq, Nat.reduceAdd, Nat.reduceSub, Nat.reduceMul, Nat.reduceEqDiff, Nat.reduceLT, Nat.reduceLeDiff, Nat.reduceMod, Nat.reduceDiv, Int.reduceLE, Int.reduceLT, Int.reduceEq, Int.reduceToNat, Int.reduceAdd, Int.reduceSub, Int.reduceMul, Int.reduceNeg] <;> rfl))
  (h1 : (P.underlying src).isSome = true := by (simp only [push_cast]))
  (h2 : P.underlying dst = some (.int .u64) := by (simp only [push_cast] <;> rfl))
  (hX : X.app o.dst { val := .t (w64 (UInt64.ofInt n)) } = X' := by (simp only [push_cast, reduceCtorEq, Nat.reduceAdd, Nat.reduceEqDiff] <;> rfl))
  (hm : (Rec.info { val := .t (w64 (UInt64.ofInt n)) }) = ms := by (simp only [Rec.info, push_cast, reduceCtorEq, Nat.reduceAdd, Nat.reduceEqDiff] <;> rfl))
  (hi : i + 1 = i' := by (simp only [Nat.reduceAdd] <;> rfl)) : wpS Γ P ops rid i (o :: os) X acc (regK ops' draw Q) := s_op (c := (P.underlying src).isSome = true) hg (by simp only [stepF, ho, hx, h2, wi64]; rfl) h1 hX hm hi h

end
section
variable {Γ : Gl} {P : Program} {Q : Exit → St → Prop}
theorem a_st {c : Code} {X X' : St} (h : wpK Γ P c Q X') (hX : X = X' := by ((try simp only [push_cast, reduceCtorEq, Nat.reduceAdd, Nat.reduceSub, Nat.reduceMul, Nat.reduceEqDiff, Nat.reduceLT, Nat.reduceLeDiff, Nat.reduceMod, Nat.reduceDiv, Int.reduceLE, Int.reduceLT, Int.reduceEq, Int.reduceToNat, Int.reduceAdd, Int.reduceSub, Int.reduceMul, Int.reduceNeg]) <;> rfl)) : wpK Γ P c Q X := by subst hX; exact h
theorem a_le {Z Z' X X' : St} (h : Le Γ Z' X') (hZ : Z = Z' := by ((try simp only [push_cast, reduceCtorEq, Nat.reduceAdd, Nat.reduceSub, Nat.reduceMul, Nat.reduceEqDiff, Nat.reduceLT, Nat.reduceLeDiff, Nat.reduceMod, Nat.reduceDiv, Int.reduceLE, Int.reduceLT, Int.reduceEq, Int.reduceToNat, Int.reduceAdd, Int.reduceSub, Int.reduceMul, Int.reduceNeg]) <;> rfl)) (hX : X = X' := by ((try simp only [push_cast, reduceCtorEq, Nat.reduceAdd, Nat.reduceSub, Nat.reduceMul, Nat.reduceEqDiff, Nat.reduceLT, Nat.reduceLeDiff, Nat.reduceMod, Nat.reduceDiv, Int.reduceLE, Int.reduceLT, Int.reduceEq, Int.reduceToNat, Int.reduceAdd, Int.reduceSub, Int.reduceMul, Int.reduceNeg]) <;> rfl)) : Le Γ Z X := by subst hX hZ; exact h
end
end Go.Ot
