/- Operations that look at objects, or change them. -/
import Derived.Test.YtbpponebopnfaaaDoorOtOps
set_option linter.unusedVariables false
set_option linter.unusedSimpArgs false
namespace Go.Ot

/-- A value's cells. -/
def D.cells : D → Option (List D)
  | .t (.v x) => if x.oneCell' then some [.t (.v x)] else none
  | .t (.agg cs) => some (cs.map .t)
  | .t x => some [.t x]
  | .bad => none
  | .agg cs => some cs
  | .tup _ => none
  | d => some [d]
/-- Cells as a value. -/
def D.ofCells (agg : Bool) (cs : List D) : D := if agg then .agg cs else cs.headD .bad

theorem cells_one {v : Value} (h : v.oneCell' = true) : v.cells = #[v] := by cases v <;> simp_all [Value.oneCell', Value.cells]

theorem Rep.cells {w : World} {M : Nat → Prop} {η : Et} {d : D} {u : Value} (h : Rep w M η d u) {ds : List D} (hd : d.cells = some ds) : Reps w M η ds u.cells.toList := by
  have one : ∀ u : Value, u.oneCell' = true → Rep w M η d u → Reps w M η [d] u.cells.toList := fun u hu hr => by
    rw [cells_one hu]
    exact ⟨u, [], rfl, hu, hr, rfl⟩
  unfold D.cells at hd
  split at hd
  · split at hd
    · cases hd
      have hu : u = _ := h
      subst hu
      exact one _ (by assumption) h
    · cases hd
  · cases hd
    obtain ⟨vs, rfl, h1⟩ := h
    exact Reps_T.2 h1
  · rename_i x hx1 hx2
    cases hd
    have hu : u.oneCell' = true := by
      cases x with
      | v x => exact absurd rfl (hx1 x)
      | sl n cs => obtain ⟨A, c, rfl, _⟩ := h; rfl
      | ifc t d => obtain ⟨x, rfl, _⟩ := h; rfl
      | agg cs => exact absurd rfl (hx2 cs)
    exact one u hu h
  · cases hd
  · cases hd
    obtain ⟨vs, rfl, h1⟩ := h
    exact h1
  · cases hd
  · rename_i h1 h2 h3 h4 h5 h6
    cases hd
    have hu : u.oneCell' = true := by
      cases d with
      | t x => exact absurd rfl (h3 x)
      | bad => exact absurd rfl h4
      | agg cs => exact absurd rfl (h5 cs)
      | tup cs => exact absurd rfl (h6 cs)
      | ifc ty d => obtain ⟨x, rfl, _⟩ := h; rfl
      | ptr m off => obtain ⟨b, s, _, rfl⟩ := h; rfl
      | rop cs => obtain ⟨a, rfl, _⟩ := h; rfl
      | msl m off n sz => obtain ⟨A, c, rfl, _⟩ := h; rfl
      | fn f caps => obtain ⟨vs, rfl, _⟩ := h; rfl
    exact one u hu h

/-- Cells written from a place on. -/
def setAt (cs : List D) (off : Nat) : List D → List D
  | [] => cs
  | d :: ds => setAt (cs.set off d) (off + 1) ds
theorem setAt_length : ∀ (ds : List D) (cs : List D) (off : Nat), (setAt cs off ds).length = cs.length
  | [], cs, off => rfl
  | d :: ds, cs, off => by simp [setAt, setAt_length ds]
def setAtV (cs : List Value) (off : Nat) : List Value → List Value
  | [] => cs
  | d :: ds => setAtV (cs.set off d) (off + 1) ds
theorem setAtV_length : ∀ (ds : List Value) (cs : List Value) (off : Nat), (setAtV cs off ds).length = cs.length
  | [], cs, off => rfl
  | d :: ds, cs, off => by simp [setAtV, setAtV_length ds]
theorem Reps.setAt {w : World} {M : Nat → Prop} {η : Et} : ∀ {ds : List D} {us : List Value}, Reps w M η ds us → ∀ {cs : List D} {vs : List Value} (off : Nat), Reps w M η cs vs → Reps w M η (setAt cs off ds) (setAtV vs off us)
  | [], us, h, cs, vs, off, k => by have h : us = [] := h; subst h; exact k
  | d :: ds, us, h, cs, vs, off, k => by
    obtain ⟨u, us', rfl, h1, h2, h3⟩ := h
    exact Reps.setAt h3 (off + 1) (k.set off h1 h2)

theorem run_storeCells_fr (P : Program) (g o : Nat) (t : TypeId) (fr : Nat × Nat) : ∀ (vs : List Value) (i : Nat) (cur : Array Value) (w : World), w.heap[g]? = some (.cells cur t fr) → (∀ j, j < cur.size → ¬ (fr.1 ≤ j ∧ j < fr.2)) → o + i + vs.length ≤ cur.size → (∀ v ∈ vs, v.oneCell' = true) →
    (storeCells ⟨g, o, none⟩ vs i).run P w = .ok () (w.setRow g (setAtV cur.toList (o + i) vs).toArray)
  | [], i, cur, w, hg, _, _, _ => by
    simp only [storeCells, setAtV, Array.toArray_toList]
    rw [setRow_self w g cur t fr hg]
    rfl
  | v :: rest, i, cur, w, hg, hfr, hl, h1 => by
    have hi : o + i < cur.size := by simp at hl; omega
    have hadd : (⟨g, o, none⟩ : Addr).add i = ⟨g, o + i, none⟩ := by unfold Addr.add; split <;> simp_all
    have hcell : w.cell? ⟨g, o + i, none⟩ = some cur[o + i] := by simp [World.cell?, hg, hi]
    have hfro : w.frozen? ⟨g, o + i, none⟩ = false := by
      have := hfr (o + i) hi
      obtain ⟨lo, hi'⟩ := fr
      simp only [World.frozen?, hg]
      simpa using this
    have hst : (store ((⟨g, o, none⟩ : Addr).add i) v).run P w = .ok () (w.setRow g (cur.setIfInBounds (o + i) v)) := by
      rw [hadd, run_store P w _ v _ (h1 v (by simp)), hcell]
      simp [hfro, setCell_eq_setRow w g (o + i) cur t fr v hg]
    have ih := run_storeCells_fr P g o t fr rest (i + 1) (cur.setIfInBounds (o + i) v) (w.setRow g (cur.setIfInBounds (o + i) v)) (setRow_heap w g cur _ t _ hg) (by simpa using hfr) (by simp at hl ⊢; omega) (fun x hx => h1 x (by simp [hx]))
    simp only [storeCells, Sem.run_bind, hst, Result.andThen_ok, ih, setRow_setRow, setAtV, Array.toList_setIfInBounds, Nat.add_assoc]

theorem Reps.one {w : World} {M : Nat → Prop} {η : Et} {ds : List D} {us : List Value} (h : Reps w M η ds us) : ∀ u ∈ us, u.oneCell' = true := by
  induction ds generalizing us with
  | nil => have h : us = [] := h; subst h; simp
  | cons d ds ih =>
    obtain ⟨u, us', rfl, h1, _, h3⟩ := h
    intro x hx
    rcases List.mem_cons.1 hx with rfl | hx
    · exact h1
    · exact ih h3 x hx

/-- An object as a world has it. -/
structure Block (w : World) (M : Nat → Prop) (η : Et) (m : Nm) (ob : Ob) (b s : Nat) (cur : Array Value) (fr : Nat × Nat) : Prop where
  at_ : η m = some (b, s)
  heap : w.heap[b]? = some (.cells cur ob.ty fr)
  free : ∀ j, j < cur.size → ¬ (fr.1 ≤ j ∧ j < fr.2)
  size : cur.size = s
  le : ob.cells.length ≤ s
  box : ob.row = false → ob.ty ≠ looseT → ob.cells.length = s
  reps : Reps w M η ob.cells (cur.toList.take ob.cells.length)
theorem Sim.block {Γ : Gl} {E : Env} {X : St} {a : Act} {w : World} {η : Et} (h : Sim Γ E X a w η) {m : Nm} {ob : Ob} (hm : X.hp m = some ob) {b s : Nat} (hη : η m = some (b, s)) : ∃ cur fr, Block w (Mx X.hp η E.A) η m ob b s cur fr := by
  have := h.ok.objs m ob hm
  simp only [ObRep, hη] at this
  obtain ⟨cur, fr, h1, h2, h3, h4, h5, h6⟩ := this
  exact ⟨cur, fr, hη, h1, h2, h3, h4, h5, h6⟩
theorem Block.cell {w : World} {M : Nat → Prop} {η : Et} {m : Nm} {ob : Ob} {b s : Nat} {cur : Array Value} {fr : Nat × Nat} (h : Block w M η m ob b s cur fr) {j : Nat} {d : D} (hd : ob.cells[j]? = some d) :
    ∃ u, w.cell? ⟨b, j, none⟩ = some u ∧ u.oneCell' = true ∧ Rep w M η d u := by
  obtain ⟨u, hu, h1, h2⟩ := h.reps.get hd
  refine ⟨u, ?_, h1, h2⟩
  rw [cell_of_row w b j cur ob.ty fr h.heap]
  rw [List.getElem?_take] at hu
  split at hu
  · simpa using hu
  · cases hu

def isAggB (P : Program) (t : TypeId) : Bool := match P.underlying t with | some (.struct _) | some (.array _ _) => true | _ => false

theorem run_isAgg {P : Program} {t : TypeId} (h : (P.underlying t).isSome = true) (w : World) : (isAgg t).run P w = .ok (isAggB P t) w := by
  obtain ⟨d, hd⟩ := Option.isSome_iff_exists.1 h
  simp only [isAgg, isAggB, hd, Sem.run_bind, run_underlying hd, Result.andThen_ok]
  cases d <;> rfl
theorem run_sizeOf {P : Program} {t : TypeId} (h : (P.info? t).isSome = true) (w : World) : (sizeOf t).run P w = .ok (P.cellsOf t) w := by
  obtain ⟨i, hi⟩ := Option.isSome_iff_exists.1 h
  simp [sizeOf, typeInfo, hi, Program.cellsOf]

theorem Reps.ofCells {w : World} {M : Nat → Prop} {η : Et} {ds : List D} {us : List Value} (h : Reps w M η ds us) (ag : Bool) {u : Value} (hu : ag = false → us[0]? = some u) : Rep w M η (D.ofCells ag ds) (if ag then .agg us.toArray else u) := by
  cases ag with
  | true => exact ⟨us.toArray, rfl, by simpa using h⟩
  | false =>
    cases ds with
    | nil => trivial
    | cons d ds =>
      obtain ⟨x, us', rfl, h1, h2, h3⟩ := h
      have := hu rfl
      simp at this
      subst this
      simpa [D.ofCells] using h2

/-- A load at an address whose cells are known. -/
theorem run_loadVar_cells {P : Program} {w : World} {t : TypeId} (a : Addr) (us : List Value) (h1 : (P.underlying t).isSome = true) (h2 : (P.info? t).isSome = true) (hl : us.length = P.cellsOf t) (hne : isAggB P t = false → P.cellsOf t = 1) (hc : ∀ j u, us[j]? = some u → w.cell? (a.add j) = some u) :
    ∃ u, (isAggB P t = false → us[0]? = some u) ∧ (loadVar t a).run P w = .ok (if isAggB P t then .agg us.toArray else u) w := by
  cases hb : isAggB P t with
  | true =>
    refine ⟨undef, (fun h => by cases h), ?_⟩
    simp [loadVar, run_isAgg h1, run_sizeOf h2, hb, ← hl, run_loadCells_list w a us hc]
  | false =>
    have h0 := hne hb
    cases us with
    | nil => simp at hl; omega
    | cons u us' =>
      refine ⟨u, fun _ => by simp, ?_⟩
      have := hc 0 u (by simp)
      simp only [Addr.add, if_true] at this
      simp [loadVar, run_isAgg h1, hb, run_load, this]

section
variable {Γ : Gl} {P : Program} {o : Oper} {X : St}

theorem add_at (b off j : Nat) : (⟨b, off, none⟩ : Addr).add j = ⟨b, off + j, none⟩ := by unfold Addr.add; split <;> simp_all

theorem spec_load_ptr (t : TypeId) (x : Operand) (h : o.op = .load t x) {m : Nm} {off : Nat} (hx : ev X x = .ptr m off) {ob : Ob} (hm : X.hp m = some ob) (h1 : (P.underlying t).isSome = true) (h2 : (P.info? t).isSome = true)
    (hl : off + P.cellsOf t ≤ ob.cells.length) (hne : isAggB P t = false → P.cellsOf t = 1) : OpSpec Γ P o X { val := D.ofCells (isAggB P t) ((ob.cells.drop off).take (P.cellsOf t)), F := [m] } := by
  intro E Y a w η hA hS K Q hK
  have hr := hS.ev x
  rw [hA.2.1 x (by simp [h, Op.operands]), hx] at hr
  obtain ⟨b, s, hη, he⟩ := hr
  have hm' : Y.hp m = some ob := (hA.2.2 m (by simp)).trans hm
  obtain ⟨cur, fr, hb⟩ := hS.block hm' hη
  have hR := (hb.reps.drop off).take (P.cellsOf t)
  generalize hus : (List.take (P.cellsOf t) (List.drop off (List.take ob.cells.length cur.toList))) = us at hR
  have hlen : us.length = P.cellsOf t := by
    rw [← hus]
    have := hb.le
    have := hb.size
    simp; omega
  have hc : ∀ j u, us[j]? = some u → w.cell? ((⟨b, off, none⟩ : Addr).add j) = some u := by
    intro j u hu
    rw [add_at, cell_of_row w b (off + j) cur ob.ty fr hb.heap]
    rw [← hus, List.getElem?_take] at hu
    split at hu
    · rw [List.getElem?_drop, List.getElem?_take] at hu
      split at hu
      · simpa using hu
      · cases hu
    · cases hu
  obtain ⟨u, hu0, hrun⟩ := run_loadVar_cells (P := P) ⟨b, off, none⟩ us h1 h2 hlen hne hc
  refine wp_val (v := if isAggB P t then .agg us.toArray else u) (w' := w) (by simp [execOp, h, he, Instr.loadAt, Instr.sureAddr, hrun]) (hK _ _ η ?_)
  rw [app_val]
  exact hS.put (hR.ofCells _ hu0) o.dst

theorem spec_load_rop (t : TypeId) (x : Operand) (h : o.op = .load t x) {cs : List T} (hx : ev X x = .rop cs) (h1 : (P.underlying t).isSome = true) (h2 : (P.info? t).isSome = true)
    (hl : P.cellsOf t ≤ cs.length) (h0 : 0 < P.cellsOf t) (hne : isAggB P t = false → P.cellsOf t = 1) : OpSpec Γ P o X { val := D.ofCells (isAggB P t) ((cs.map D.t).take (P.cellsOf t)) } := by
  intro E Y a w η hA hS K Q hK
  have hr := hS.ev x
  rw [hA.2.1 x (by simp [h, Op.operands]), hx] at hr
  obtain ⟨ad, he, hR⟩ := hr
  rcases hR with hR | ⟨_, hR⟩
  · subst hR; simp at hl; omega
  obtain ⟨us, hlen, hget⟩ : ∃ us : List Value, us.length = P.cellsOf t ∧ ∀ j (hj : j < P.cellsOf t), ∃ u, us[j]? = some u ∧ w.cell? (ad.add j) = some u ∧ u.oneCell' = true ∧ RepT w (Mx Y.hp η E.A) (cs[j]'(by omega)) u := by
    have : ∀ n, n ≤ P.cellsOf t → ∃ us : List Value, us.length = n ∧ ∀ j (hj : j < n), ∃ u, us[j]? = some u ∧ w.cell? (ad.add j) = some u ∧ u.oneCell' = true ∧ ∃ hj' : j < cs.length, RepT w (Mx Y.hp η E.A) (cs[j]'hj') u := by
      intro n
      induction n with
      | zero => exact fun _ => ⟨[], rfl, fun j hj => by omega⟩
      | succ n ih =>
        intro hn
        obtain ⟨us, hl', hg⟩ := ih (by omega)
        obtain ⟨u, hu, hu1, hu2⟩ := hR.get (i := n) (d := cs[n]'(by omega)) (List.getElem?_eq_getElem (by omega))
        refine ⟨us ++ [u], by simp [hl'], fun j hj => ?_⟩
        by_cases e : j = n
        · subst e
          exact ⟨u, by simp [← hl'], by simpa using hu, hu1, by omega, hu2⟩
        · obtain ⟨u', h1, h2⟩ := hg j (by omega)
          exact ⟨u', by rw [List.getElem?_append_left (by omega)]; exact h1, h2⟩
    obtain ⟨us, h1, h2⟩ := this _ (Nat.le_refl _)
    refine ⟨us, h1, fun j hj => ?_⟩
    obtain ⟨u, h3, h4, h5, h6, h7⟩ := h2 j hj
    exact ⟨u, h3, h4, h5, h7⟩
  have hc : ∀ j u, us[j]? = some u → w.cell? (ad.add j) = some u := by
    intro j u hu
    have hj : j < P.cellsOf t := by rw [← hlen]; exact (List.getElem?_eq_some_iff.1 hu).1
    obtain ⟨u', h3, h4, _⟩ := hget j hj
    rw [h3] at hu
    cases hu
    exact h4
  have hRs : Reps w (Mx Y.hp η E.A) η ((cs.map D.t).take (P.cellsOf t)) us := by
    refine Reps.of_get (by simp [hlen]; omega) (fun j d hd => ?_)
    rw [List.getElem?_take] at hd
    split at hd
    · rename_i hj
      obtain ⟨u, h3, h4, h5, h6⟩ := hget j hj
      have hjc : j < cs.length := by omega
      simp only [List.getElem?_map, List.getElem?_eq_getElem hjc, Option.map_some, Option.some.injEq] at hd
      subst hd
      exact ⟨u, h3, h5, h6⟩
    · cases hd
  obtain ⟨u, hu0, hrun⟩ := run_loadVar_cells (P := P) ad us h1 h2 hlen hne hc
  refine wp_val (v := if isAggB P t then .agg us.toArray else u) (w' := w) (by simp [execOp, h, he, Instr.loadAt, Instr.sureAddr, hrun]) (hK _ _ η ?_)
  rw [app_val]
  exact hS.put (hRs.ofCells _ hu0) o.dst

theorem app_upd {dst : Option Nat} {d : D} {F : List Nm} {b : Bool} {m : Nm} {ob : Option Ob} : X.app dst { val := d, F := F, bar := b, upd := [(m, ob)] } = { ({ X with hp := upd X.hp m ob } : St) with sl := match dst with | some s => X.sl.set s d | none => X.sl } := by
  cases dst <;> rfl

theorem spec_store (t : TypeId) (x y : Operand) (h : o.op = .store t x y) {m : Nm} {off : Nat} (hx : ev X x = .ptr m off) {ob : Ob} (hm : X.hp m = some ob) (ho : ob.own = true) {ds : List D} (hy : (ev X y).cells = some ds)
    (h2 : (P.info? t).isSome = true) (hn : P.cellsOf t = ds.length) (hl : off + ds.length ≤ ob.cells.length) : OpSpec Γ P o X { val := .bad, F := [m], upd := [(m, some { ob with cells := setAt ob.cells off ds })] } := by
  intro E Y a w η hA hS K Q hK
  have hr := hS.ev x
  rw [hA.2.1 x (by simp [h, Op.operands]), hx] at hr
  obtain ⟨b, s, hη, he⟩ := hr
  have hry := hS.ev y
  rw [hA.2.1 y (by simp [h, Op.operands])] at hry
  have hRy := hry.cells hy
  have hm' : Y.hp m = some ob := (hA.2.2 m (by simp)).trans hm
  obtain ⟨cur, fr, hb⟩ := hS.block hm' hη
  have hle := hb.le
  have hsz := hb.size
  have hlen : (a.eval y).cells.toList.length = ds.length := hRy.length
  have hst := run_storeCells_fr P b off ob.ty fr (a.eval y).cells.toList 0 cur w hb.heap hb.free (by omega) hRy.one
  have hsz2 : (a.eval y).cells.size = P.cellsOf t := by rw [hn, ← hlen]; simp
  refine wp_skip' (w' := w.setRow b (setAtV cur.toList off (a.eval y).cells.toList).toArray) (by
    simp only [execOp, h, Instr.storeAt, he, Instr.sureAddr, storeVar, Sem.run_bind, Sem.run_pure, Result.andThen_ok, run_sizeOf h2, hsz2, ne_eq, not_true, if_false]
    rw [Nat.add_zero] at hst
    rw [hst]; rfl) (hK _ _ η ?_)
  rw [app_upd]
  refine Sim.put (X := { Y with hp := upd Y.hp m _ }) (hS.write hm' ho hη (setAt ob.cells off ds) _ ?_ ?_ ?_ ?_) (d := .bad) (u := undef) trivial o.dst
  · simp [setAtV_length, hsz]
  · rw [setAt_length]; exact hle
  · rw [setAt_length]; exact hb.box
  · rw [setAt_length]
    have := Reps.setAt hRy off hb.reps
    refine Reps.of_get (by simp [setAt_length, setAtV_length]; omega) (fun j d hd => ?_)
    obtain ⟨u, hu, h3, h4⟩ := this.get hd
    refine ⟨u, ?_, h3, h4⟩
    have key : ∀ (us : List Value) (cs : List Value) (off n : Nat), off + us.length ≤ n → (setAtV cs off us).take n = setAtV (cs.take n) off us := by
      intro us
      induction us with
      | nil => intro cs off n _; rfl
      | cons u us ih =>
        intro cs off n hn
        simp only [setAtV]
        rw [ih _ _ _ (by simp at hn; omega), List.take_set]
    rw [List.toList_toArray, key _ _ _ _ (by omega)]
    exact hu
end
end Go.Ot
