/- errors.As: what the entries for internal/reflectlite do that it calls, and how a package-level variable is read whose value is known. -/
import Derived.Test.YtbpponebopnfaaaDoorOtPtr
import Derived.Test.YtbpponebopnfaaaDoorOtCopy
set_option linter.unusedVariables false
set_option linter.unusedSimpArgs false
namespace Go.Ot
section
variable {Γ : Gl} {P : Program} {o : Oper} {X : St}
/-- A package-level variable of one cell is read. -/
theorem spec_loadGlobal (t : TypeId) (g : Nat) (h : o.op = .load t (.global g)) {v : Value} (hG : ∀ w, Γ.G w → w.cell? ⟨g, 0, none⟩ = some v) (hg : g < Γ.gs) (h1 : (P.underlying t).isSome = true) (h2 : (P.info? t).isSome = true) (hc : P.cellsOf t = 1) (ha : isAggB P t = false) :
    OpSpec Γ P o X { val := .t (.v v) } := by
  intro E Y a w η hA hS K Q hK
  have he : a.eval (.global g) = .pointer (some ⟨g, 0, none⟩) := rfl
  have hb : w.heap[g]? = E.w0.heap[g]? := hS.keep g (by have := hS.gle; omega) (fun hM => by have := hS.gM g hM; omega)
  have hcell : w.cell? ⟨g, 0, none⟩ = some v := (World.cell?_of_block (a := ⟨g, 0, none⟩) hb).trans (hG _ hS.glob)
  obtain ⟨u, hu0, hrun⟩ := run_loadVar_cells (P := P) (w := w) ⟨g, 0, none⟩ [v] h1 h2 (by simp [hc]) (fun _ => hc) (by
    intro j u hj
    cases j with
    | zero => simp at hj; subst hj; exact hcell
    | succ j => simp at hj)
  have hu := hu0 ha
  simp at hu
  subst hu
  rw [ha] at hrun
  refine wp_val (v := v) (w' := w) (by simp [execOp, h, he, Instr.loadAt, Instr.sureAddr, hrun]) (hK _ _ η ?_)
  rw [app_val]
  exact hS.put (by exact rfl) o.dst
/-- An external of one argument that looks at no memory. -/
theorem spec_ext1 {f : FuncId} {x : Operand} {tys : Array TypeId} (h : o.op = .call { callee := .value (.func f), args := #[x], argTypes := tys }) {r : D}
    (hr : ∀ w M η v, Rep w M η (ev X x) v → ∃ u, (callFunc f #[v]).run P w = .ok (.value u) w ∧ Rep w M η r u) : OpSpec Γ P o X { val := r } := by
  intro E Y a w η hA hS K Q hK
  have hx := hS.ev x
  rw [hA.2.1 x (by simp [h, Op.operands, Call.operands])] at hx
  obtain ⟨u, hu, hru⟩ := hr _ _ _ _ hx
  refine wp_val (v := u) (w' := w) ?_ (hK _ _ η ?_)
  · have hf : a.eval (.func f) = .func (.func f) #[] #[] := rfl
    simp only [execOp, h, resolve, hf, Deferred.ofValue, Sem.run_bind, Sem.run_pure, Result.andThen_ok, invoke]
    simp [hu]
  · rw [app_val]
    exact hS.put hru o.dst
/-- An external of one argument that looks at the first cell of an object. -/
theorem spec_ext1m {f : FuncId} {x : Operand} {tys : Array TypeId} (h : o.op = .call { callee := .value (.func f), args := #[x], argTypes := tys }) {r d0 : D} {m : Nm} {ob : Ob} (hm : X.hp m = some ob) (h0 : ob.cells = [d0])
    (hr : ∀ w M η v b s u0, Rep w M η (ev X x) v → η m = some (b, s) → w.cell? ⟨b, 0, none⟩ = some u0 → Rep w M η d0 u0 → ∃ u, (callFunc f #[v]).run P w = .ok (.value u) w ∧ Rep w M η r u) : OpSpec Γ P o X { val := r, F := [m] } := by
  intro E Y a w η hA hS K Q hK
  have hx := hS.ev x
  rw [hA.2.1 x (by simp [h, Op.operands, Call.operands])] at hx
  have hm' : Y.hp m = some ob := (hA.2.2 m (by simp)).trans hm
  obtain ⟨b, s, hη⟩ : ∃ b s, η m = some (b, s) := by
    have := hS.ok.objs m ob hm'
    unfold ObRep at this
    split at this
    · rw [h0] at this; cases this.2
    · rename_i b s e; exact ⟨b, s, e⟩
  obtain ⟨cur, fr, hb⟩ := hS.block hm' hη
  obtain ⟨u0, hu0, _, hR0⟩ := hb.reps.get (j := 0) (d := d0) (by rw [h0]; rfl)
  have hcell : w.cell? ⟨b, 0, none⟩ = some u0 := by
    rw [cell_of_row w b 0 cur ob.ty fr hb.heap]
    rw [List.getElem?_take] at hu0
    split at hu0
    · simpa using hu0
    · cases hu0
  obtain ⟨u, hu, hru⟩ := hr _ _ _ _ b s u0 hx hη hcell hR0
  refine wp_val (v := u) (w' := w) ?_ (hK _ _ η ?_)
  · have hf : a.eval (.func f) = .func (.func f) #[] #[] := rfl
    simp only [execOp, h, resolve, hf, Deferred.ofValue, Sem.run_bind, Sem.run_pure, Result.andThen_ok, invoke]
    simp [hu]
  · rw [app_val]
    exact hS.put hru o.dst
/-- reflectlite.ValueOf: a new variable that has what the interface value has. -/
theorem spec_valueOf {f : FuncId} {x : Operand} {tys : Array TypeId} (h : o.op = .call { callee := .value (.func f), args := #[x], argTypes := tys }) {ty : TypeId} {c : D} {H F : Value} (rid i k : Nat) (hm : X.hp (.r rid i k) = none) (hH : H.oneCell' = true) (hF : F.oneCell' = true)
    (hr : ∀ w M η v, Rep w M η (ev X x) v → ∃ u, Rep w M η c u ∧ u.oneCell' = true ∧ (callFunc f #[v]).run P w = .ok (.value (.agg #[H, .pointer (some ⟨w.heap.size, 0, none⟩), F])) (w.alloc (.cells #[u] ty))) :
    OpSpec Γ P o X { val := .agg [.t (.v H), .ptr (.r rid i k) 0, .t (.v F)], F := [.r rid i k], upd := [(.r rid i k, some ⟨[c], ty, false, true⟩)] } := by
  intro E Y a w η hA hS K Q hK
  have hx := hS.ev x
  rw [hA.2.1 x (by simp [h, Op.operands, Call.operands])] at hx
  have hm' : Y.hp (.r rid i k) = none := (hA.2.2 _ (by simp)).trans hm
  obtain ⟨u, hu, hu1, hrun⟩ := hr _ _ _ _ hx
  refine wp_val (v := .agg #[H, .pointer (some ⟨w.heap.size, 0, none⟩), F]) (w' := w.alloc (.cells #[u] ty)) ?_ (hK _ _ (updE η (.r rid i k) (some (w.heap.size, 1))) ?_)
  · have hf : a.eval (.func f) = .func (.func f) #[] #[] := rfl
    simp only [execOp, h, resolve, hf, Deferred.ofValue, Sem.run_bind, Sem.run_pure, Result.andThen_ok, invoke]
    simp [hrun]
  rw [app_upd]
  refine Sim.put (X := { Y with hp := upd Y.hp _ _ }) (hS.new hm' (hS.not_par rid i k) ⟨[c], ty, false, true⟩ #[u] (0, 0) (by intro j _ ⟨_, h2⟩; omega) rfl (by simp) (by intro _; rfl) ⟨u, [], rfl, hu1, hu, rfl⟩) (d := .agg [.t (.v H), .ptr _ 0, .t (.v F)]) ?_ o.dst
  refine ⟨_, rfl, ?_⟩
  exact ⟨_, _, rfl, hH, rfl, _, _, rfl, rfl, ⟨w.heap.size, 1, by simp, rfl⟩, _, _, rfl, hF, rfl, rfl⟩
/-- (reflectlite.Value).Set of a value of one cell. -/
theorem spec_reflectSet {f : FuncId} {x y : Operand} {tys : Array TypeId} (h : o.op = .call { callee := .value (.func f), args := #[x, y], argTypes := tys }) {H1 F1 H2 F2 : Value} {m m2 : Nm} {off : Nat} {c : D} {ob ob2 : Ob} {t : TypeId} (mk : Value → Value)
    (hx : ev X x = .agg [.t (.v H1), .ptr m off, .t (.v F1)]) (hy : ev X y = .agg [.t (.v H2), .ptr m2 0, .t (.v F2)]) (hm : X.hp m = some ob) (ho : ob.own = true) (hm2 : X.hp m2 = some ob2) (h2 : ob2.cells = [c]) (hoff : off < ob.cells.length)
    (ht : (P.info? t).isSome = true) (hct : P.cellsOf t = 1) (hmk : ∀ u : Value, u.oneCell' = true → (mk u).cells = #[u])
    (hr : ∀ w a b u, w.cell? b = some u → u.oneCell' = true → (callFunc f #[.agg #[H1, .pointer (some a), F1], .agg #[H2, .pointer (some b), F2]]).run P w = (do storeVar t a (mk u); pure (.value (.tuple #[])) : Sem Next).run P w) :
    OpSpec Γ P o X { val := .tup [], F := [m, m2], upd := [(m, some { ob with cells := setAt ob.cells off [c] })] } := by
  intro E Y a w η hA hS K Q hK
  have hx' := hS.ev x
  rw [hA.2.1 x (by simp [h, Op.operands, Call.operands]), hx] at hx'
  have hy' := hS.ev y
  rw [hA.2.1 y (by simp [h, Op.operands, Call.operands]), hy] at hy'
  have hm' : Y.hp m = some ob := (hA.2.2 m (by simp)).trans hm
  have hm2' : Y.hp m2 = some ob2 := (hA.2.2 m2 (by simp)).trans hm2
  obtain ⟨vx, hvx, x0, xs, hxs, _, hx0, x1, xs1, hxs1, _, ⟨b, s, hη, hx1⟩, x2, xs2, hxs2, _, hx2, hxs3⟩ := hx'
  obtain ⟨vy, hvy, y0, ys, hys, _, hy0, y1, ys1, hys1, _, ⟨b2, s2, hη2, hy1⟩, y2, ys2, hys2, _, hy2, hys3⟩ := hy'
  have ex : a.eval x = .agg #[H1, .pointer (some ⟨b, off, none⟩), F1] := by
    rw [hvx]
    congr 1
    apply Array.ext'
    rw [hxs, hxs1, hxs2, show xs2 = [] from hxs3, show x0 = H1 from hx0, hx1, show x2 = F1 from hx2]
  have ey : a.eval y = .agg #[H2, .pointer (some ⟨b2, 0, none⟩), F2] := by
    rw [hvy]
    congr 1
    apply Array.ext'
    rw [hys, hys1, hys2, show ys2 = [] from hys3, show y0 = H2 from hy0, hy1, show y2 = F2 from hy2]
  obtain ⟨cur2, fr2, hb2⟩ := hS.block hm2' hη2
  obtain ⟨u0, hu0, hu1, hR0⟩ := hb2.reps.get (j := 0) (d := c) (by rw [h2]; rfl)
  have hcell : w.cell? ⟨b2, 0, none⟩ = some u0 := by
    rw [cell_of_row w b2 0 cur2 ob2.ty fr2 hb2.heap]
    rw [List.getElem?_take] at hu0
    split at hu0
    · simpa using hu0
    · cases hu0
  obtain ⟨cur, fr, hb⟩ := hS.block hm' hη
  have hle := hb.le
  have hsz := hb.size
  have hmk0 := hmk u0 hu1
  have hl0 : (mk u0).cells.toList = [u0] := by rw [hmk0]
  have hst := run_storeCells_fr P b off ob.ty fr (mk u0).cells.toList 0 cur w hb.heap hb.free (by rw [hl0]; simp; omega) (by rw [hl0]; simpa using hu1)
  have hsz2 : (mk u0).cells.size = P.cellsOf t := by rw [hmk0, hct]; rfl
  refine wp_val (v := .tuple #[]) (w' := w.setRow b (setAtV cur.toList off [u0]).toArray) ?_ (hK _ _ η ?_)
  · have hf : a.eval (.func f) = .func (.func f) #[] #[] := rfl
    rw [Nat.add_zero, hl0] at hst
    simp only [execOp, h, resolve, hf, Deferred.ofValue, Sem.run_bind, Sem.run_pure, Result.andThen_ok, invoke]
    have h3 := hr w ⟨b, off, none⟩ ⟨b2, 0, none⟩ u0 hcell hu1
    simp only [storeVar, Sem.run_bind, Sem.run_pure, Result.andThen_ok, run_sizeOf ht, hsz2, ne_eq, not_true, if_false, hl0, hst] at h3
    simp [ex, ey, h3]
  rw [app_upd]
  refine Sim.put (X := { Y with hp := upd Y.hp m _ }) (hS.write hm' ho hη (setAt ob.cells off [c]) _ ?_ ?_ ?_ ?_) (d := .tup []) (u := .tuple #[]) ⟨#[], rfl, rfl⟩ o.dst
  · simp [setAtV_length, hsz]
  · rw [setAt_length]; exact hle
  · rw [setAt_length]; exact hb.box
  · rw [setAt_length]
    have hRy : Reps w (Mx Y.hp η E.A) η [c] [u0] := ⟨u0, [], rfl, hu1, hR0, rfl⟩
    have := Reps.setAt hRy off hb.reps
    refine Reps.of_get (by simp [setAt_length, setAtV_length]; omega) (fun j d hd => ?_)
    obtain ⟨u, hu, h3, h4⟩ := this.get hd
    refine ⟨u, ?_, h3, h4⟩
    rw [List.toList_toArray, setAtV_take _ _ _ _ (by simp; omega)]
    exact hu
/-- An array in memory, sliced whole. -/
theorem spec_sliceArr {t : TypeId} {x : Operand} (h : o.op = .slice t x none none none) {n e sz : Nat} (ht : P.underlying t = some (.array n e)) (h2 : (P.info? e).isSome = true) (hsz : P.cellsOf e = sz) {m : Nm} {ob : Ob} (hx : ev X x = .ptr m 0) (hm : X.hp m = some ob) (hrow : ob.row = false) (hlt : ob.ty ≠ looseT)
    (hl : ob.cells.length = n * sz) (hn : n ≤ maxLen) (h0 : 0 < n * sz) : OpSpec Γ P o X { val := .msl m 0 n sz, F := [m] } := by
  intro E Y a w η hA hS K Q hK
  have hr := hS.ev x
  rw [hA.2.1 x (by simp [h, Op.operands]), hx] at hr
  obtain ⟨b, s, hη, he⟩ := hr
  have hm' : Y.hp m = some ob := (hA.2.2 m (by simp)).trans hm
  obtain ⟨cur, fr, hb⟩ := hS.block hm' hη
  have hs := hb.box hrow hlt
  have hbd := run_bounds (P := P) (X := X) (l := 0) (r := n) (len := n) (cap := n) hS none none (fun y hy => by simp at hy) false rfl rfl (Nat.zero_le _) (Nat.le_refl _)
  refine wp_val (v := .slice (some (if n = 0 then ⟨b, 0, none⟩ else Addr.add ⟨b, 0, none⟩ (0 * sz))) (n - 0) (n - 0)) (w' := w) (by
    simp only [execOp, h, he, Instr.sliceAt, Instr.sureAddr, Sem.run_bind, Sem.run_pure, run_underlying ht, Result.andThen_ok, Option.map_none] at hbd ⊢
    simp only [hbd, Result.andThen_ok, run_sizeOf h2, hsz]) (hK _ _ η ?_)
  rw [app_val]
  refine hS.put (d := .msl m 0 n sz) ⟨_, _, by rw [Nat.sub_zero], Nat.le_refl _, hn, .inr ⟨b, s, hη, ?_, by omega⟩⟩ o.dst
  by_cases e0 : n = 0
  · simp [e0]
  · simp [e0, add_at]
end
end Go.Ot
namespace Go.Ot
/-- A contract, told of what says more. -/
theorem Good.args {Γ : Gl} {P : Program} {f : FuncId} {args args' : List D} {ps : List Ob} {r : D} {ps' : List (Option Ob)} {ns : List Ob} (h : ∀ w M η vals, RepsA w M η args' vals → RepsA w M η args vals) (hG : Good Γ P f args ps r ps' ns) : Good Γ P f args' ps r ps' ns :=
  fun w A η vals h1 h2 h3 h4 h5 h6 h7 => hG w A η vals h1 h2 h3 h4 h5 h6 (h _ _ _ _ h7)
/-- A closed value as a tree. -/
theorem Good.plain1 {Γ : Gl} {P : Program} {f : FuncId} {args : List D} {x : T} {v : Value} {ps : List Ob} {r : D} {ps' : List (Option Ob)} {ns : List Ob} (hp : x.plain = some v) (hG : Good Γ P f (.t (.v v) :: args) ps r ps' ns) : Good Γ P f (.t x :: args) ps r ps' ns :=
  hG.args fun w M η vals h => by
    obtain ⟨u, us, rfl, h1, h2⟩ := h
    exact ⟨u, us, rfl, RepT.plain x u v h1 hp, h2⟩
end Go.Ot
namespace Go.Ot
section
variable {Γ : Gl} {P : Program} {X : St} {ops ops' : Array Oper} {rid i : Nat} {o : Oper} {os : List Oper} {acc : List Meta} {Q : Exit → St → Prop} {K : St → List Meta → Prop} {draw : Bool}
/-- A method of a plain value behind an interface that is an external, with plain arguments. -/
theorem spec_extma {rx : Operand} {name : String} {args : Array Operand} {tys : Array TypeId} {ty : TypeId} {v v' : Value} {f : FuncId} {res : Value} (us : Array Value) (h : o.op = .call { callee := .invoke rx name, args := args, argTypes := tys })
    (hx : (ev X rx).plain = some (.iface ty v)) (hp : args.toList.all (fun x => ((ev X x).plain).isSome) = true) (hu : args.map (fun x => ((ev X x).plain).getD undef) = us) (hm : ∀ w, (method (P.types.size + Made.depth) ty v name).run P w = .ok (f, v') w)
    (hr : ∀ w, (callFunc f (#[v'] ++ us)).run P w = .ok (.value res) w) : OpSpec Γ P o X { val := .t (.v res) } := by
  refine spec_plain (by intro cs b e; rw [h] at e; cases e) (fun z hz => ?_) res (fun w => ?_)
  · rw [h] at hz
    simp [Op.operands, Call.operands] at hz
    rcases hz with rfl | hz
    · rw [hx]; rfl
    · exact List.all_eq_true.1 hp z (by simpa using hz)
  · have hp' : (do pure (← program) : Sem Program).run P w = .ok P w := rfl
    have h0 : (#[Value.iface ty v] ++ us)[0]? = some (.iface ty v) := by rw [Array.getElem?_append_left (by simp)]; rfl
    have h1 : (#[Value.iface ty v] ++ us).extract 1 (#[Value.iface ty v] ++ us).size = us := by
      apply Array.ext'
      simp
    simp only [execOp, h, resolve, hx, Option.getD_some, hu, Sem.run_bind, Sem.run_pure, Result.andThen_ok, invoke, h0, h1, callMethod]
    have hm' := hm w
    simp [hm', hr]
theorem a_bygo {r : Rec} {X' : St} {i' : Nat} {gi : Nat} {want : Bool} (hsp : OpSpec Γ P o X r) (h : wpS Γ P ops rid i' os X' [] (regK ops' false Q)) (hg : o.guard = some (gi, want) := by rfl)
  (hb : wantIs (gslot ops X gi) want = some true := by (simp only [gslot, Option.bind_some, push_cast, reduceCtorEq, Nat.reduceAdd, Nat.reduceSub, Nat.reduceMul, Nat.reduceEqDiff, Nat.reduceLT, Nat.reduceLeDiff, Nat.reduceMod, Nat.reduceDiv, Int.reduceLE, Int.reduceLT, Int.reduceEq, Int.reduceToNat, Int.reduceAdd, Int.reduceSub, Int.reduceMul, Int.reduceNeg] <;> rfl))
  (hs : stepF P rid i X o = none := by (first | (simp only [push_cast, reduceCtorEq, Nat.reduceAdd, Nat.reduceSub, Nat.reduceMul, Nat.reduceEqDiff, Nat.reduceLT, Nat.reduceLeDiff, Nat.reduceMod, Nat.reduceDiv, Int.reduceLE, Int.reduceLT, Int.reduceEq, Int.reduceToNat, Int.reduceAdd, Int.reduceSub, Int.reduceMul, Int.reduceNeg]) | (simp only [stepF, callF])))
  (ht : Tidy r := by first | exact (fun _ => rfl) | exact (fun h => by cases h))
  (hX : X.app o.dst r = X' := by (simp only [push_cast, reduceCtorEq, Nat.reduceAdd, Nat.reduceEqDiff] <;> rfl))
  (hi : i + 1 = i' := by (simp only [Nat.reduceAdd] <;> rfl)) : wpS Γ P ops rid i (o :: os) X [] (regK ops' false Q) := s_by_if0 hg hb hs hsp ht hX hi h
end
end Go.Ot
namespace Go.Ot
/-- A reflectlite.Value. -/
theorem rep_val3 {w : World} {M : Nat → Prop} {η : Et} {H F v : Value} {m : Nm} {off : Nat} (h : Rep w M η (.agg [.t (.v H), .ptr m off, .t (.v F)]) v) : ∃ b s, η m = some (b, s) ∧ v = .agg #[H, .pointer (some ⟨b, off, none⟩), F] := by
  obtain ⟨vx, hvx, x0, xs, hxs, _, hx0, x1, xs1, hxs1, _, ⟨b, s, hη, hx1⟩, x2, xs2, hxs2, _, hx2, hxs3⟩ := h
  refine ⟨b, s, hη, ?_⟩
  rw [hvx]
  congr 1
  apply Array.ext'
  rw [hxs, hxs1, hxs2, show xs2 = [] from hxs3, show x0 = H from hx0, hx1, show x2 = F from hx2]
/-- reflectlite.ValueOf of a pointer in an interface. -/
theorem val_of_ptr {P : Program} {f PT : Nat} {H F : Value} (hr : ∀ (w : World) (a : Addr), (callFunc f #[.iface PT (.pointer (some a))]).run P w = .ok (.value (.agg #[H, .pointer (some ⟨w.heap.size, 0, none⟩), F])) (w.alloc (.cells #[.pointer (some a)] PT))) {m : Nm} {off : Nat} :
    ∀ w M η v, Rep w M η (.ifc PT (.ptr m off)) v → ∃ u, Rep w M η (.ptr m off) u ∧ u.oneCell' = true ∧ (callFunc f #[v]).run P w = .ok (.value (.agg #[H, .pointer (some ⟨w.heap.size, 0, none⟩), F])) (w.alloc (.cells #[u] PT)) := by
  rintro w M η v ⟨x, rfl, b, s, hη, rfl⟩
  exact ⟨_, ⟨b, s, hη, rfl⟩, rfl, hr w _⟩
theorem val_of_v {P : Program} {f TT : Nat} {H F v0 c : Value} (h1 : c.oneCell' = true) (hr : ∀ (w : World), (callFunc f #[.iface TT v0]).run P w = .ok (.value (.agg #[H, .pointer (some ⟨w.heap.size, 0, none⟩), F])) (w.alloc (.cells #[c] TT))) :
    ∀ w M η v, Rep w M η (.t (.v (.iface TT v0))) v → ∃ u, Rep w M η (.t (.v c)) u ∧ u.oneCell' = true ∧ (callFunc f #[v]).run P w = .ok (.value (.agg #[H, .pointer (some ⟨w.heap.size, 0, none⟩), F])) (w.alloc (.cells #[u] TT)) := by
  intro w M η v hv
  have hv : v = .iface TT v0 := hv
  subst hv
  exact ⟨c, rfl, h1, hr w⟩
/-- A method of a reflectlite.Value that looks at nothing but its type. -/
theorem val_type {P : Program} {f : Nat} {H F res : Value} {m : Nm} (hr : ∀ (w : World) (a : Addr), (callFunc f #[.agg #[H, .pointer (some a), F]]).run P w = .ok (.value res) w) :
    ∀ w M η v, Rep w M η (.agg [.t (.v H), .ptr m 0, .t (.v F)]) v → ∃ u, (callFunc f #[v]).run P w = .ok (.value u) w ∧ Rep w M η (.t (.v res)) u := by
  intro w M η v hv
  obtain ⟨b, s, _, rfl⟩ := rep_val3 hv
  exact ⟨res, hr w _, rfl⟩
/-- One that looks at the pointer that its variable has. -/
theorem val_isNil {P : Program} {f : Nat} {H F : Value} {m m2 : Nm} {off : Nat} (hr : ∀ (w : World) (a p : Addr), w.cell? a = some (.pointer (some p)) → (callFunc f #[.agg #[H, .pointer (some a), F]]).run P w = .ok (.value (.bool false)) w) :
    ∀ w M η v b s u0, Rep w M η (.agg [.t (.v H), .ptr m 0, .t (.v F)]) v → η m = some (b, s) → w.cell? ⟨b, 0, none⟩ = some u0 → Rep w M η (.ptr m2 off) u0 → ∃ u, (callFunc f #[v]).run P w = .ok (.value u) w ∧ Rep w M η (.t (.v (.bool false))) u := by
  intro w M η v b s u0 hv hη hc h0
  obtain ⟨b', s', hη', rfl⟩ := rep_val3 hv
  rw [hη] at hη'
  cases hη'
  obtain ⟨b2, s2, _, rfl⟩ := h0
  exact ⟨_, hr w _ _ hc, rfl⟩
theorem val_elem {P : Program} {f : Nat} {H F H' F' : Value} {m m2 : Nm} {off : Nat} (h1 : H'.oneCell' = true) (h2 : F'.oneCell' = true) (hr : ∀ (w : World) (a p : Addr), w.cell? a = some (.pointer (some p)) → (callFunc f #[.agg #[H, .pointer (some a), F]]).run P w = .ok (.value (.agg #[H', .pointer (some p), F'])) w) :
    ∀ w M η v b s u0, Rep w M η (.agg [.t (.v H), .ptr m 0, .t (.v F)]) v → η m = some (b, s) → w.cell? ⟨b, 0, none⟩ = some u0 → Rep w M η (.ptr m2 off) u0 → ∃ u, (callFunc f #[v]).run P w = .ok (.value u) w ∧ Rep w M η (.agg [.t (.v H'), .ptr m2 off, .t (.v F')]) u := by
  intro w M η v b s u0 hv hη hc h0
  obtain ⟨b', s', hη', rfl⟩ := rep_val3 hv
  rw [hη] at hη'
  cases hη'
  obtain ⟨b2, s2, hη2, rfl⟩ := h0
  exact ⟨_, hr w _ _ hc, _, rfl, _, _, rfl, h1, rfl, _, _, rfl, rfl, ⟨b2, s2, hη2, rfl⟩, _, _, rfl, h2, rfl, rfl⟩
end Go.Ot
namespace Go.Ot
section
variable {Γ : Gl} {P : Program} {X : St} {ops ops' : Array Oper} {rid i : Nat} {o : Oper} {os : List Oper} {acc : List Meta} {Q : Exit → St → Prop} {K : St → List Meta → Prop} {draw : Bool}
theorem a_callpgo {gi : Nat} {want : Bool} {g : Operand} {args : Array Operand} {tys : Array TypeId} {f : FuncId} {caps cargs : List D} {r : D} {ps : List Ob} {ps' : List (Option Ob)} {ns : List Ob} {X' : St} {i' : Nat} (nms len poi : List Nm) (sh : Bool) (hG : Good Γ P f cargs ps r ps' ns) (h : wpS Γ P ops rid i' os X' [] (regK ops' false Q)) (hg : o.guard = some (gi, want) := by rfl)
  (hb : wantIs (gslot ops X gi) want = some true := by (simp only [gslot, Option.bind_some, push_cast, reduceCtorEq, Nat.reduceAdd, Nat.reduceSub, Nat.reduceMul, Nat.reduceEqDiff, Nat.reduceLT, Nat.reduceLeDiff, Nat.reduceMod, Nat.reduceDiv, Int.reduceLE, Int.reduceLT, Int.reduceEq, Int.reduceToNat, Int.reduceAdd, Int.reduceSub, Int.reduceMul, Int.reduceNeg] <;> rfl))
  (ho : o.op = .call { callee := .value g, args := args, argTypes := tys } := by rfl)
  (hs : stepF P rid i X o = none := by (simp only [stepF, callF]))
  (hf : ev X g = .fn f caps := by (simp only [push_cast, reduceCtorEq, Nat.reduceAdd, Nat.reduceSub, Nat.reduceMul, Nat.reduceEqDiff, Nat.reduceLT, Nat.reduceLeDiff, Nat.reduceMod, Nat.reduceDiv, Int.reduceLE, Int.reduceLT, Int.reduceEq, Int.reduceToNat, Int.reduceAdd, Int.reduceSub, Int.reduceMul, Int.reduceNeg] <;> rfl))
  (hk : callOk P f = true := by (simp only [push_cast]))
  (hv : VwL (srcOf nms) X.hp (· ∈ len) cargs (args.toList.map (ev X) ++ caps) := by (simp [-List.map_map, -List.map_drop, -List.map_take, VwL_cons, VwL_nil, Vw_bad, Vw_t, Vw_ptr, Vw_msl, Vw_rop, Vw_agg, Vw_tup, Vw_ifc, VwT_refl, VwL_refl_map, Vw_nilmsl, VwT_msl, VwT_agg, VwT_v, VwT_nil, VwTs_cons, VwTs_nil, VwTs_refl, VwTs_app, List.take_of_length_le, srcL, notIn, ObsVw, SrcOk, pOk, Go.Ot.look, resP, resN, ev, evc, mkS, push_cast, srcOf, ObsAt, PoiOk]))
  (hobs : ObsAt (srcOf nms) (· ∈ len) X.hp nms ps := by (simp [-List.map_map, -List.map_drop, -List.map_take, VwL_cons, VwL_nil, Vw_bad, Vw_t, Vw_ptr, Vw_msl, Vw_rop, Vw_agg, Vw_tup, Vw_ifc, VwT_refl, VwL_refl_map, Vw_nilmsl, VwT_msl, VwT_agg, VwT_v, VwT_nil, VwTs_cons, VwTs_nil, VwTs_refl, VwTs_app, List.take_of_length_le, srcL, notIn, ObsVw, SrcOk, pOk, Go.Ot.look, resP, resN, ev, evc, mkS, push_cast, srcOf, ObsAt, PoiOk]))
  (hnd : nms.Nodup := by (simp [-List.map_map, -List.map_drop, -List.map_take, VwL_cons, VwL_nil, Vw_bad, Vw_t, Vw_ptr, Vw_msl, Vw_rop, Vw_agg, Vw_tup, Vw_ifc, VwT_refl, VwL_refl_map, Vw_nilmsl, VwT_msl, VwT_agg, VwT_v, VwT_nil, VwTs_cons, VwTs_nil, VwTs_refl, VwTs_app, List.take_of_length_le, srcL, notIn, ObsVw, SrcOk, pOk, Go.Ot.look, resP, resN, ev, evc, mkS, push_cast, srcOf, ObsAt, PoiOk]))
  (hdis : ∀ m ∈ len, m ∉ nms := by (simp))
  (hlex : ∀ m ∈ len, X.hp m ≠ none := by (simp [Go.Ot.look]))
  (hpoi : PoiOk poi nms ps ps' := by (simp [-List.map_map, -List.map_drop, -List.map_take, VwL_cons, VwL_nil, Vw_bad, Vw_t, Vw_ptr, Vw_msl, Vw_rop, Vw_agg, Vw_tup, Vw_ifc, VwT_refl, VwL_refl_map, Vw_nilmsl, VwT_msl, VwT_agg, VwT_v, VwT_nil, VwTs_cons, VwTs_nil, VwTs_refl, VwTs_app, List.take_of_length_le, srcL, notIn, ObsVw, SrcOk, pOk, Go.Ot.look, resP, resN, ev, evc, mkS, push_cast, srcOf, ObsAt, PoiOk]))
  (hnew : ∀ k, k < ns.length → X.hp (.r rid i k) = none := by (simp [Go.Ot.look]))
  (hsh : sh = false → r.flat = true ∧ (∀ ob ∈ ns, D.flatL ob.cells = true) ∧ ∀ ob, some ob ∈ ps' → D.flatL ob.cells = true := by (simp [-List.map_map, -List.map_drop, -List.map_take, D.flat, D.flatL, T.flat, T.flatL, flatL_map_t, push_cast]))
  (hlp : sh = true → ∀ m ∈ len, ∀ ob, X.hp m = some ob → ∀ p ∈ poi, D.hasL p ob.cells = false := by (simp [Go.Ot.look, D.hasL, D.has, push_cast]))
  (ht : Tidy (callRec X nms r ps' ns rid i sh len poi) := by first | exact (fun _ => rfl) | exact (fun h => by cases h))
  (hX : X.app o.dst (callRec X nms r ps' ns rid i sh len poi) = X' := by (simp only [push_cast, reduceCtorEq, Nat.reduceAdd, Nat.reduceEqDiff] <;> rfl))
  (hi : i + 1 = i' := by (simp only [Nat.reduceAdd] <;> rfl)) : wpS Γ P ops rid i (o :: os) X [] (regK ops' false Q) := s_by_if0 hg hb hs (spec_callp ho hf hk nms len poi hG hv hobs hnd hdis hlex hpoi rid i hnew sh hsh hlp) ht hX hi h
end
end Go.Ot
