/- Copying a text's bytes into a row. -/
import Derived.Test.YtbpponebopnfaaaDoorOtUse
set_option linter.unusedVariables false
set_option linter.unusedSimpArgs false
namespace Go.Ot
theorem setAtV_take : ∀ (us : List Value) (cs : List Value) (off n : Nat), off + us.length ≤ n → (setAtV cs off us).take n = setAtV (cs.take n) off us := by
  intro us
  induction us with
  | nil => intro cs off n _; rfl
  | cons u us ih =>
    intro cs off n hn
    simp only [setAtV]
    rw [ih _ _ _ (by simp at hn; omega), List.take_set]
section
variable {Γ : Gl} {P : Program} {o : Oper} {X : St}
theorem bytes_reps (w : World) (M : Nat → Prop) (η : Et) (l : List UInt8) : Reps w M η (bytesD l) (l.map fun b => Value.int .u8 b.toNat) := by
  refine Reps.of_get (by simp) (fun j d hd => ?_)
  simp only [bytesD, List.getElem?_map, Option.map_eq_some_iff] at hd
  obtain ⟨b, hb, rfl⟩ := hd
  exact ⟨.int .u8 b.toNat, by simp [hb], rfl, rfl⟩
theorem spec_copy (x y : Operand) (t u : TypeId) (h : o.op = .call { callee := .builtin .copy, args := #[x, y], argTypes := #[t, u] }) {m : Nm} {off n : Nat} {ob : Ob} {e : TypeId} {l : List UInt8} (hx : ev X x = .msl m off n 1) (hy : ev X y = .t (.v (.string (S l))))
    (hm : X.hp m = some ob) (ho : ob.own = true) (ht : P.underlying t = some (.slice e)) (he : (P.info? e).isSome = true) (h1 : P.cellsOf e = 1) (hl : off + n ≤ ob.cells.length) :
    OpSpec Γ P o X { val := .t (num (min l.length n : Nat)), F := [m], upd := [(m, some { ob with cells := setAt ob.cells off (bytesD (l.take n)) })] } := by
  intro E Y a w η hA hS K Q hK
  have hr := hS.ev x
  rw [hA.2.1 x (by simp [h, Op.operands, Call.operands]), hx] at hr
  obtain ⟨B, c, hex, hnc, _, hB⟩ := hr
  have hry := hS.ev y
  rw [hA.2.1 y (by simp [h, Op.operands, Call.operands]), hy] at hry
  have hey : a.eval y = .string (S l) := hry
  have hm' : Y.hp m = some ob := (hA.2.2 m (by simp)).trans hm
  have hext : ((S l).extract 0 (min l.length n)).data.map (fun b => Value.int .u8 b.toNat) = ((l.take n).map fun b => Value.int .u8 b.toNat).toArray := by
    rw [S_extract]
    apply Array.ext'
    have e1 : (l.take (min l.length n)).drop 0 = l.take n := by
      rw [List.drop_zero]
      by_cases hln : n ≤ l.length
      · rw [Nat.min_eq_right hln]
      · rw [Nat.min_eq_left (by omega), List.take_of_length_le (Nat.le_refl _), List.take_of_length_le (by omega)]
    rw [e1]
    simp [S]
  have hsz : (sizeOf e).run P w = .ok 1 w := by rw [run_sizeOf he, h1]
  have hmn : Nat.min (S l).size n = min l.length n := rfl
  cases hcap : decide (c = 0) with
  | true =>
    have hc0 : c = 0 := of_decide_eq_true hcap
    have hn0 : n = 0 := by omega
    subst hn0
    refine wp_val (v := .int .i64 (min l.length 0 : Nat)) (w' := w) (by
      simp only [execOp, h, resolve, invoke, builtin]
      rw [Nat.min_zero] at hext
      cases B with
      | none => simp [Builtin.copy_, hex, hey, run_underlying ht, Builtin.lenOf, hsz, Builtin.firstCells, goInt, Sem.run_bind]
      | some A => simp [Builtin.copy_, hex, hey, run_underlying ht, Builtin.lenOf, hsz, Builtin.firstCells, goInt, Sem.run_bind, hext, storeCells]) (hK _ _ η ?_)
    have hsame : Y.app o.dst { val := .t (num (min l.length 0 : Nat)), F := [m], upd := [(m, some { ob with cells := setAt ob.cells off (bytesD (l.take 0)) })] } = { Y with sl := match o.dst with | some s => Y.sl.set s (.t (num (min l.length 0 : Nat))) | none => Y.sl } := by
      have : upd Y.hp m (some ob) = Y.hp := by
        funext m'
        by_cases e : m' = m
        · subst e; rw [upd_same, hm']
        · rw [upd_ne e]
      rw [app_upd]
      cases o.dst <;> simp [bytesD, setAt, this]
    rw [hsame]
    exact hS.put (by exact rfl) o.dst
  | false =>
    have hc0 : c ≠ 0 := of_decide_eq_false hcap
    rcases hB with hB | ⟨b, s, hη, rfl, hoff⟩
    · exact absurd hB hc0
    obtain ⟨cur, fr, hb⟩ := hS.block hm' hη
    have hle := hb.le
    have hbs := hb.size
    have hlen : ((l.take n).map fun b => Value.int .u8 b.toNat).length ≤ n := by simp; omega
    have hst := run_storeCells_fr P b off ob.ty fr ((l.take n).map fun b => Value.int .u8 b.toNat) 0 cur w hb.heap hb.free (by omega) (by intro v hv; simp only [List.mem_map] at hv; obtain ⟨b, _, rfl⟩ := hv; rfl)
    rw [Nat.add_zero] at hst
    have htk : l.take (l.length.min n) = l.take n := by
      show l.take (min l.length n) = l.take n
      by_cases hln : n ≤ l.length
      · rw [Nat.min_eq_right hln]
      · rw [Nat.min_eq_left (by omega), List.take_of_length_le (Nat.le_refl _), List.take_of_length_le (by omega)]
    have hst' : (storeCells ⟨b, off, none⟩ (List.take (l.length.min n) (List.map (fun b => Value.int .u8 b.toNat) l))).run P w = .ok () (w.setRow b (setAtV cur.toList off ((l.take n).map fun b => Value.int .u8 b.toNat)).toArray) := by
      rw [← List.map_take, htk]; exact hst
    refine wp_val (v := .int .i64 (min l.length n : Nat)) (w' := w.setRow b (setAtV cur.toList off ((l.take n).map fun b => Value.int .u8 b.toNat)).toArray) (by
      simp only [execOp, h, resolve, invoke, builtin]
      simp [Builtin.copy_, hex, hey, run_underlying ht, Builtin.lenOf, hsz, Builtin.firstCells, goInt, Sem.run_bind, hext, hst, hst']
      try rfl) (hK _ _ η ?_)
    rw [app_upd]
    refine Sim.put (X := { Y with hp := upd Y.hp m _ }) (hS.write hm' ho hη (setAt ob.cells off (bytesD (l.take n))) _ ?_ ?_ ?_ ?_) (d := .t (num _)) (u := .int .i64 _) rfl o.dst
    · simp [setAtV_length, hbs]
    · rw [setAt_length]; exact hle
    · rw [setAt_length]; exact hb.box
    · rw [setAt_length]
      have := Reps.setAt (bytes_reps w _ η (l.take n)) off hb.reps
      refine Reps.of_get (by simp [setAt_length, setAtV_length]; omega) (fun j d hd => ?_)
      obtain ⟨u, hu, h3, h4⟩ := this.get hd
      refine ⟨u, ?_, h3, h4⟩
      rw [List.toList_toArray, setAtV_take _ _ _ _ (by omega)]
      exact hu
end
/-- Bytes laid over the beginning of others. -/
theorem setAt_bytes : ∀ (b l : List UInt8), b.length ≤ l.length → setAt ((l.map w8).map D.t) 0 (bytesD b) = ((b ++ l.drop b.length).map w8).map D.t := by
  have key : ∀ (b l pre : List UInt8), b.length ≤ l.length → setAt (((pre ++ l).map w8).map D.t) pre.length (bytesD b) = ((pre ++ b ++ l.drop b.length).map w8).map D.t := by
    intro b
    induction b with
    | nil => intro l pre _; simp [bytesD, setAt]
    | cons x b ih =>
      intro l pre h
      cases l with
      | nil => simp at h
      | cons y l =>
        have := ih l (pre ++ [x]) (by simpa using h)
        simp only [List.append_assoc, List.cons_append, List.nil_append, List.length_append, List.length_cons, List.length_nil, Nat.zero_add] at this
        simp only [bytesD, List.map_cons, setAt, List.length_cons, List.drop_succ_cons, List.append_assoc, List.cons_append] at this ⊢
        rw [show (((pre ++ y :: l).map w8).map D.t).set pre.length (D.t (.v (.int .u8 (x.toNat : Int)))) = ((pre ++ x :: l).map w8).map D.t from by
          rw [set_w8, List.set_append_right _ _ (Nat.le_refl _), Nat.sub_self, List.set_cons_zero]]
        exact this
  intro b l h
  simpa using key b l [] h
theorem setAt_bytes' {b l : List UInt8} (h : b.length ≤ l.length) : setAt ((l.map w8).map D.t) 0 ((b.map w8).map D.t) = ((b ++ l.drop b.length).map w8).map D.t := by rw [← bytesD_cls b]; exact setAt_bytes b l h
-- steps
attribute [push_cast] setAt_bytes'
section
variable {Γ : Gl} {P : Program} {X : St} {ops ops' : Array Oper} {rid i : Nat} {o : Oper} {os : List Oper} {acc : List Meta} {Q : Exit → St → Prop} {K : St → List Meta → Prop} {draw : Bool}
theorem a_copy {x y : Operand} {t u e : TypeId} {m : Nm} {off n : Nat} {ob : Ob} {l : List UInt8} {X' : St} {i' : Nat} (h : wpS Γ P ops rid i' os X' [] (regK ops' false Q)) (hg : o.guard = none := by rfl)
  (hs : stepF P rid i X o = none := by (simp only [stepF, callF]))
  (ho : o.op = .call { callee := .builtin .copy, args := #[x, y], argTypes := #[t, u] } := by rfl)
  (hx : ev X x = .msl m off n 1 := by (simp only [push_cast, reduceCtorEq, Nat.reduceAdd, Nat.reduceSub, Nat.reduceMul, Nat.reduceEqDiff, Nat.reduceLT, Nat.reduceLeDiff, Nat.reduceMod, Nat.reduceDiv, Int.reduceLE, Int.reduceLT, Int.reduceEq, Int.reduceToNat, Int.reduceAdd, Int.reduceSub, Int.reduceMul, Int.reduceNeg] <;> rfl))
  (hy : ev X y = .t (.v (.string (S l))) := by (simp only [push_cast, reduceCtorEq, Nat.reduceAdd, Nat.reduceSub, Nat.reduceMul, Nat.reduceEqDiff, Nat.reduceLT, Nat.reduceLeDiff, Nat.reduceMod, Nat.reduceDiv, Int.reduceLE, Int.reduceLT, Int.reduceEq, Int.reduceToNat, Int.reduceAdd, Int.reduceSub, Int.reduceMul, Int.reduceNeg] <;> rfl))
  (hm' : X.hp m = some ob := by (simp only [push_cast, reduceCtorEq, Nat.reduceAdd, Nat.reduceSub, Nat.reduceMul, Nat.reduceEqDiff, Nat.reduceLT, Nat.reduceLeDiff, Nat.reduceMod, Nat.reduceDiv, Int.reduceLE, Int.reduceLT, Int.reduceEq, Int.reduceToNat, Int.reduceAdd, Int.reduceSub, Int.reduceMul, Int.reduceNeg] <;> rfl))
  (h0 : ob.own = true := by rfl)
  (h1 : P.underlying t = some (.slice e) := by (simp only [push_cast] <;> rfl))
  (h2 : (P.info? e).isSome = true := by (simp only [push_cast]))
  (h3 : P.cellsOf e = 1 := by (simp only [push_cast]))
  (hl : off + n ≤ ob.cells.length := by (first | omega | (simp only [push_cast, List.length_cons, List.length_nil, List.length_map, List.length_append, List.length_replicate, reduceCtorEq, Nat.reduceAdd, Nat.reduceSub, Nat.reduceMul, Nat.reduceEqDiff, Nat.reduceLT, Nat.reduceLeDiff, Nat.reduceMod, Nat.reduceDiv, Int.reduceLE, Int.reduceLT, Int.reduceEq, Int.reduceToNat, Int.reduceAdd, Int.reduceSub, Int.reduceMul, Int.reduceNeg] <;> (try omega))))
  (hX : X.app o.dst { val := .t (num (min l.length n : Nat)), F := [m], upd := [(m, some { ob with cells := setAt ob.cells off (bytesD (l.take n)) })] } = X' := by (simp (disch := first | omega | (simp only [List.length_drop, List.length_take, List.length_map, List.length_append, List.length_cons, List.length_nil, List.length_replicate, List.length_set] <;> omega) | (simp only [push_cast] <;> omega) | fail) only [push_cast, reduceCtorEq, Nat.reduceAdd, Nat.reduceEqDiff] <;> rfl))
  (hi : i + 1 = i' := by (simp only [Nat.reduceAdd] <;> rfl)) : wpS Γ P ops rid i (o :: os) X [] (regK ops' false Q) := s_by0 hg hs (spec_copy x y t u ho hx hy hm' h0 h1 h2 h3 hl) (fun _ => rfl) hX hi h

theorem a_copyd {x y : Operand} {t u e : TypeId} {m : Nm} {off n : Nat} {ob : Ob} {l : List UInt8} {X' : St} {ms : Meta} {i' : Nat} (h : wpS Γ P ops rid i' os X' (acc ++ [ms]) (regK ops' draw Q)) (hg : o.guard = none := by rfl)
  (hs : stepF P rid i X o = none := by (simp only [stepF, callF]))
  (ho : o.op = .call { callee := .builtin .copy, args := #[x, y], argTypes := #[t, u] } := by rfl)
  (hx : ev X x = .msl m off n 1 := by (simp only [push_cast, reduceCtorEq, Nat.reduceAdd, Nat.reduceSub, Nat.reduceMul, Nat.reduceEqDiff, Nat.reduceLT, Nat.reduceLeDiff, Nat.reduceMod, Nat.reduceDiv, Int.reduceLE, Int.reduceLT, Int.reduceEq, Int.reduceToNat, Int.reduceAdd, Int.reduceSub, Int.reduceMul, Int.reduceNeg] <;> rfl))
  (hy : ev X y = .t (.v (.string (S l))) := by (simp only [push_cast, reduceCtorEq, Nat.reduceAdd, Nat.reduceSub, Nat.reduceMul, Nat.reduceEqDiff, Nat.reduceLT, Nat.reduceLeDiff, Nat.reduceMod, Nat.reduceDiv, Int.reduceLE, Int.reduceLT, Int.reduceEq, Int.reduceToNat, Int.reduceAdd, Int.reduceSub, Int.reduceMul, Int.reduceNeg] <;> rfl))
  (hm' : X.hp m = some ob := by (simp only [push_cast, reduceCtorEq, Nat.reduceAdd, Nat.reduceSub, Nat.reduceMul, Nat.reduceEqDiff, Nat.reduceLT, Nat.reduceLeDiff, Nat.reduceMod, Nat.reduceDiv, Int.reduceLE, Int.reduceLT, Int.reduceEq, Int.reduceToNat, Int.reduceAdd, Int.reduceSub, Int.reduceMul, Int.reduceNeg] <;> rfl))
  (h0 : ob.own = true := by rfl)
  (h1 : P.underlying t = some (.slice e) := by (simp only [push_cast] <;> rfl))
  (h2 : (P.info? e).isSome = true := by (simp only [push_cast]))
  (h3 : P.cellsOf e = 1 := by (simp only [push_cast]))
  (hl : off + n ≤ ob.cells.length := by (first | omega | (simp only [push_cast, List.length_cons, List.length_nil, List.length_map, List.length_append, List.length_replicate, reduceCtorEq, Nat.reduceAdd, Nat.reduceSub, Nat.reduceMul, Nat.reduceEqDiff, Nat.reduceLT, Nat.reduceLeDiff, Nat.reduceMod, Nat.reduceDiv, Int.reduceLE, Int.reduceLT, Int.reduceEq, Int.reduceToNat, Int.reduceAdd, Int.reduceSub, Int.reduceMul, Int.reduceNeg] <;> (try omega))))
  (hX : X.app o.dst { val := .t (num (min l.length n : Nat)), F := [m], upd := [(m, some { ob with cells := setAt ob.cells off (bytesD (l.take n)) })] } = X' := by (simp (disch := first | omega | (simp only [List.length_drop, List.length_take, List.length_map, List.length_append, List.length_cons, List.length_nil, List.length_replicate, List.length_set] <;> omega) | (simp only [push_cast] <;> omega) | fail) only [push_cast, reduceCtorEq, Nat.reduceAdd, Nat.reduceEqDiff] <;> rfl))
  (hm : (Rec.info { val := .t (num (min l.length n : Nat)), F := [m], upd := [(m, some { ob with cells := setAt ob.cells off (bytesD (l.take n)) })] }) = ms := by (simp only [Rec.info, push_cast, reduceCtorEq, Nat.reduceAdd, Nat.reduceEqDiff] <;> rfl))
  (hi : i + 1 = i' := by (simp only [Nat.reduceAdd] <;> rfl)) : wpS Γ P ops rid i (o :: os) X acc (regK ops' draw Q) := s_by hg hs (spec_copy x y t u ho hx hy hm' h0 h1 h2 h3 hl) (fun _ => rfl) hX hm hi h

end
end Go.Ot
