/- Operations that make objects, addresses, values of parts. -/
import Derived.Test.YtbpponebopnfaaaDoorOtMem
set_option linter.unusedVariables false
set_option linter.unusedSimpArgs false
namespace Go.Ot
section
variable {Γ : Gl} {P : Program} {o : Oper} {X : St}

theorem Sim.not_par {Γ : Gl} {E : Env} {X : St} {a : Act} {w : World} {η : Et} (h : Sim Γ E X a w η) (rid i k : Nat) : E.η0 (.r rid i k) = none := by
  cases e : E.η0 (.r rid i k) with
  | none => rfl
  | some q =>
    obtain ⟨j, hj⟩ := h.par _ _ e
    cases hj

/-- The zero value's cells. -/
def zeroD (P : Program) (t : TypeId) : Option (List D) :=
  match P.info? t with
  | some i => match i.zero with
    | some z => if z.cells.toList.all Value.oneCell' then some (z.cells.toList.map fun x => .t (.v x)) else none
    | none => none
  | none => none
theorem zeroD_spec {t : TypeId} {ds : List D} (h : zeroD P t = some ds) : ∃ i z, P.info? t = some i ∧ i.zero = some z ∧ ∀ w M η, Reps w M η ds z.cells.toList := by
  unfold zeroD at h
  split at h
  · rename_i i hi
    split at h
    · rename_i z hz
      split at h
      · rename_i hall
        cases h
        refine ⟨i, z, hi, hz, fun w M η => Reps.of_get (by simp) (fun j d hd => ?_)⟩
        simp only [List.getElem?_map, Option.map_eq_some_iff] at hd
        obtain ⟨x, hx, rfl⟩ := hd
        exact ⟨x, hx, List.all_eq_true.1 hall x (List.mem_of_getElem? hx), rfl⟩
      · cases h
    · cases h
  · cases h

theorem spec_alloc (t : TypeId) (h : o.op = .alloc t) (rid i k : Nat) (hm : X.hp (.r rid i k) = none) {ds : List D} (hz : zeroD P t = some ds) :
    OpSpec Γ P o X { val := .ptr (.r rid i k) 0, F := [.r rid i k], upd := [(.r rid i k, some ⟨ds, t, false, true⟩)] } := by
  intro E Y a w η hA hS K Q hK
  obtain ⟨inf, z, hi, hzz, hR⟩ := zeroD_spec hz
  have hm' : Y.hp (.r rid i k) = none := (hA.2.2 _ (by simp)).trans hm
  have hr := hR w (Mx Y.hp η E.A) η
  refine wp_val (v := .pointer (some ⟨w.heap.size, 0, none⟩)) (w' := w.alloc (.cells z.cells t)) (by simp [execOp, h, Instr.alloc, zeroValue, typeInfo, hi, hzz, newVar, newRow]) (hK _ _ (updE η (.r rid i k) (some (w.heap.size, z.cells.size))) ?_)
  rw [app_upd]
  have hl : z.cells.toList.length = ds.length := hr.length
  refine Sim.put (X := { Y with hp := upd Y.hp _ _ }) (hS.new hm' (hS.not_par rid i k) ⟨ds, t, false, true⟩ z.cells (0, 0) (by intro j _ ⟨_, h2⟩; omega) rfl (by simp at hl ⊢; omega) (by intro _; simp at hl ⊢; omega) ?_) (d := .ptr _ 0) ⟨w.heap.size, z.cells.size, by simp, rfl⟩ o.dst
  have : z.cells.toList.take ds.length = z.cells.toList := by rw [← hl]; exact List.take_length
  simpa [this] using hr

theorem spec_box (t : TypeId) (x : Operand) (h : o.op = .box t x) (rid i k : Nat) (hm : X.hp (.r rid i k) = none) {ds : List D} (hx : (ev X x).cells = some ds) :
    OpSpec Γ P o X { val := .ptr (.r rid i k) 0, F := [.r rid i k], upd := [(.r rid i k, some ⟨ds, t, false, true⟩)] } := by
  intro E Y a w η hA hS K Q hK
  have hm' : Y.hp (.r rid i k) = none := (hA.2.2 _ (by simp)).trans hm
  have hr := hS.ev x
  rw [hA.2.1 x (by simp [h, Op.operands])] at hr
  have hr := hr.cells hx
  refine wp_val (v := .pointer (some ⟨w.heap.size, 0, none⟩)) (w' := w.alloc (.cells (a.eval x).cells t)) (by simp [execOp, h, Instr.box, newVar, newRow]) (hK _ _ (updE η (.r rid i k) (some (w.heap.size, (a.eval x).cells.size))) ?_)
  rw [app_upd]
  have hl : (a.eval x).cells.toList.length = ds.length := hr.length
  refine Sim.put (X := { Y with hp := upd Y.hp _ _ }) (hS.new hm' (hS.not_par rid i k) ⟨ds, t, false, true⟩ (a.eval x).cells (0, 0) (by intro j _ ⟨_, h2⟩; omega) rfl (by simp at hl ⊢; omega) (by intro _; simp at hl ⊢; omega) ?_) (d := .ptr _ 0) ⟨w.heap.size, (a.eval x).cells.size, by simp, rfl⟩ o.dst
  have : (a.eval x).cells.toList.take ds.length = (a.eval x).cells.toList := by rw [← hl]; exact List.take_length
  simpa [this] using hr

/-! ### literals -/
def fillD (place : Nat → Option (Nat × Nat)) (cells : List D) : List (Nat × D) → Option (List D)
  | [] => some cells
  | (i, d) :: r => match place i, d.cells with
    | some (off, size), some ds => if ds.length = size ∧ off + size ≤ cells.length then fillD place (setAt cells off ds) r else none
    | _, _ => none
theorem foldl_set (off : Nat) : ∀ (us : List Value) (k : Nat) (cs : Array Value), (us.zipIdx k).foldl (fun cs (p : Value × Nat) => cs.setIfInBounds (off + p.2) p.1) cs = (setAtV cs.toList (off + k) us).toArray
  | [], k, cs => by simp [setAtV]
  | u :: us, k, cs => by
    simp only [List.zipIdx_cons, List.foldl_cons, setAtV]
    rw [foldl_set off us (k + 1)]
    simp [Array.toList_setIfInBounds, Nat.add_assoc]
theorem fill_spec {w : World} {M : Nat → Prop} {η : Et} (place : Nat → Option (Nat × Nat)) : ∀ (ps : List (Nat × D)) (vs : List (Nat × Value)) (cells : List D) (us : Array Value) {out : List D}, ps.map (·.1) = vs.map (·.1) → RepsA w M η (ps.map (·.2)) (vs.map (·.2)) →
    Reps w M η cells us.toList → fillD place cells ps = some out → ∃ us', Instr.fill place us vs = some us' ∧ Reps w M η out us'.toList
  | [], vs, cells, us, out, h1, h2, h3, h4 => by
    have : vs = [] := by simpa using h1
    subst this
    cases h4
    exact ⟨us, rfl, h3⟩
  | (i, d) :: ps, vs, cells, us, out, h1, h2, h3, h4 => by
    cases vs with
    | nil => simp at h1
    | cons v vs =>
      obtain ⟨i', u⟩ := v
      simp only [List.map_cons, List.cons.injEq] at h1
      obtain ⟨rfl, h1⟩ := h1
      obtain ⟨x, xs, hx, h5, h6⟩ := h2
      simp only [List.map_cons, List.cons.injEq] at hx
      obtain ⟨rfl, rfl⟩ := hx
      simp only [fillD] at h4
      split at h4
      · rename_i off size ds hp hd
        split at h4
        · rename_i hc
          have hr := h5.cells hd
          have hl : u.cells.size = ds.length := by have := hr.length; simpa using this
          have hul : us.size = cells.length := by have := h3.length; simpa using this
          have hz := foldl_set off u.cells.toList 0 us
          have h7 := Reps.setAt hr off h3
          obtain ⟨us', h8, h9⟩ := fill_spec place ps vs (setAt cells off ds) (setAtV us.toList off u.cells.toList).toArray h1 h6 (by simpa using h7) h4
          refine ⟨us', ?_, h9⟩
          simp only [Instr.fill, hp]
          rw [if_neg (by simp; omega)]
          rw [← h8]
          congr 1
          rw [← Array.foldl_toList, Array.toList_zipIdx]
          simpa using hz
        · cases h4
      · cases h4

theorem RepsA.of_map {w : World} {M : Nat → Prop} {η : Et} {a : Act} (ps : List (Nat × Operand)) (h : ∀ x ∈ ps.map (·.2), Rep w M η (ev X x) (a.eval x)) : RepsA w M η ((ps.map fun p => (p.1, ev X p.2)).map (·.2)) ((ps.map fun p => (p.1, a.eval p.2)).map (·.2)) := by
  induction ps with
  | nil => rfl
  | cons p ps ih => exact ⟨_, _, rfl, h _ (by simp), ih (fun x hx => h x (by simp at hx ⊢; exact .inr hx))⟩

/-- The places of a struct's fields. -/
def placeOf (P : Program) (t : TypeId) (i : Nat) : Option (Nat × Nat) :=
  match P.underlying t with
  | some (.struct fs) => (fs[i]?).map fun f => (f.offset, P.cellsOf f.type)
  | some (.array _ e) => some (i * P.cellsOf e, P.cellsOf e)
  | _ => none
def placesOk (P : Program) (t : TypeId) : Bool :=
  match P.underlying t with
  | some (.struct fs) => fs.toList.all fun f => (P.info? f.type).isSome
  | some (.array _ e) => (P.info? e).isSome
  | _ => false
theorem mapM_places {w : World} : ∀ (fs : List Field), (fs.all fun f => (P.info? f.type).isSome) = true → (fs.mapM (m := Sem) fun f => Prod.mk f.offset <$> sizeOf f.type).run P w = .ok (fs.map fun f => (f.offset, P.cellsOf f.type)) w
  | [], _ => rfl
  | f :: fs, h => by
    simp only [List.all_cons, Bool.and_eq_true] at h
    simp only [List.mapM_cons, Sem.run_bind, Sem.run_map, run_sizeOf h.1, Result.andThen_ok, mapM_places fs h.2, Sem.run_pure, List.map_cons]

theorem spec_build (t : TypeId) (parts : Array (Nat × Operand)) (h : o.op = .build t parts) {zs ds : List D} (hz : zeroD P t = some zs) (hp : placesOk P t = true) (hf : fillD (placeOf P t) zs (parts.toList.map fun p => (p.1, ev X p.2)) = some ds) :
    OpSpec Γ P o X { val := .agg ds } := by
  intro E Y a w η hA hS K Q hK
  obtain ⟨inf, z, hi, hzz, hR⟩ := zeroD_spec hz
  have hps : RepsA w (Mx Y.hp η E.A) η ((parts.toList.map fun p => (p.1, ev X p.2)).map (·.2)) ((parts.toList.map fun p => (p.1, a.eval p.2)).map (·.2)) :=
    RepsA.of_map _ (fun x hx => by
      have := hS.ev x
      rwa [hA.2.1 x (by rw [h]; simpa [Op.operands] using hx)] at this)
  obtain ⟨us, hus, hRs⟩ := fill_spec (placeOf P t) _ (parts.toList.map fun p => (p.1, a.eval p.2)) zs z.cells (by simp) hps (hR _ _ _) hf
  refine wp_val (v := .agg us) (w' := w) ?_ (hK _ _ η ?_)
  · simp only [execOp, h, Instr.build, zeroValue, typeInfo, Sem.run_bind, run_program, Result.andThen_ok, hi, hzz, Sem.run_pure]
    unfold placesOk at hp
    split at hp
    · rename_i fs hfs
      have hpl : (placeOf P t) = fun i => (fs.toList.map fun f => (f.offset, P.cellsOf f.type))[i]? := by
        funext i
        simp [placeOf, hfs]
      rw [hpl] at hus
      simp only [run_underlying hfs, Result.andThen_ok]
      have hmm : (fs.mapM (m := Sem) fun f => Prod.mk f.offset <$> sizeOf f.type).run P w = .ok (fs.toList.map fun f => (f.offset, P.cellsOf f.type)).toArray w := by
        rw [Array.mapM_eq_mapM_toList]
        simp only [Sem.run_map, mapM_places fs.toList hp, Result.andThen_ok]
      simp only [bind_pure_comp, Sem.run_bind, hmm, Result.andThen_ok, List.getElem?_toArray, Array.toList_map]
      rw [hus]
      rfl
    · rename_i n e he
      have hpl : (placeOf P t) = fun i => some (i * P.cellsOf e, P.cellsOf e) := by
        funext i
        simp [placeOf, he]
      rw [hpl] at hus
      simp only [run_underlying he, Result.andThen_ok, Sem.run_bind, run_sizeOf hp]
      simp only [Array.toList_map]
      rw [hus]
      rfl
    · cases hp
  · rw [app_val]
    exact hS.put (d := .agg ds) ⟨us, rfl, hRs⟩ o.dst
end
end Go.Ot
