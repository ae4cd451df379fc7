/- What an abstract state says of an activation and a world, and how it moves along with them. -/
import Derived.Test.YtbpponebopnfaaaDoorOtBase
import Derived.Laws.CopyOwn
set_option linter.unusedVariables false
set_option linter.unusedSimpArgs false
namespace Go.Ot

/-- An abstract state: slots, and the objects that the frame knows by name. -/
structure St where
  sl : List D
  hp : Nm → Option Ob

def upd (h : Nm → Option Ob) (m : Nm) (o : Option Ob) : Nm → Option Ob := fun m' => if m' = m then o else h m'
@[simp] theorem upd_same (h : Nm → Option Ob) (m : Nm) (o : Option Ob) : upd h m o m = o := by simp [upd]
theorem upd_ne {h : Nm → Option Ob} {m m' : Nm} {o : Option Ob} (hne : m' ≠ m) : upd h m o m' = h m' := by simp [upd, hne]
def updE (η : Et) (m : Nm) (q : Option (Nat × Nat)) : Et := fun m' => if m' = m then q else η m'
@[simp] theorem updE_same (η : Et) (m : Nm) (q : Option (Nat × Nat)) : updE η m q m = q := by simp [updE]
theorem updE_ne {η : Et} {m m' : Nm} {q : Option (Nat × Nat)} (hne : m' ≠ m) : updE η m q m' = η m' := by simp [updE, hne]

/-- The blocks that may be changed. -/
def Mut (hp : Nm → Option Ob) (η : Et) (b : Nat) : Prop := ∃ m ob s, hp m = some ob ∧ ob.own = true ∧ η m = some (b, s)

/-- The blocks of which no tree leads to any. -/
def Mx (hp : Nm → Option Ob) (η : Et) (A : Nat → Prop) (b : Nat) : Prop := Mut hp η b ∨ A b

def ObRep (w : World) (M : Nat → Prop) (η : Et) (m : Nm) (ob : Ob) : Prop :=
  match η m with
  | none => ob.row = true ∧ ob.cells = []
  | some (b, s) => ∃ cur fr, w.heap[b]? = some (.cells cur ob.ty fr) ∧ (∀ j, j < cur.size → ¬ (fr.1 ≤ j ∧ j < fr.2)) ∧ cur.size = s ∧ ob.cells.length ≤ s ∧ (ob.row = false → ob.ty ≠ looseT → ob.cells.length = s) ∧ Reps w M η ob.cells (cur.toList.take ob.cells.length)

structure HpOk (w : World) (A : Nat → Prop) (hp : Nm → Option Ob) (η : Et) : Prop where
  objs : ∀ m ob, hp m = some ob → ObRep w (Mx hp η A) η m ob
  dom : ∀ m q, η m = some q → hp m ≠ none
  inj : ∀ m m' b s s', η m = some (b, s) → η m' = some (b, s') → m = m'
  noA : ∀ m b s, η m = some (b, s) → ¬ A b

/-- Where a frame began: the world, the blocks that it was handed to change, those that it must not know, the names it was handed. -/
structure Env where
  w0 : World
  M0 : Nat → Prop
  A : Nat → Prop
  η0 : Et

/-- What holds of the world all along: of its first blocks alone. -/
structure Gl where
  G : World → Prop
  gs : Nat
  st : ∀ w w' : World, (∀ b, b < gs → w'.heap[b]? = w.heap[b]?) → G w → G w'

structure Sim (Γ : Gl) (E : Env) (X : St) (a : Act) (w : World) (η : Et) : Prop where
  slots : RepsA w (Mx X.hp η E.A) η X.sl a.tmps.toList
  ok : HpOk w E.A X.hp η
  defers : a.defers = []
  size : E.w0.heap.size ≤ w.heap.size
  keep : ∀ b, b < E.w0.heap.size → ¬ E.M0 b → w.heap[b]? = E.w0.heap[b]?
  mine : ∀ m ob b s, X.hp m = some ob → ob.own = true → η m = some (b, s) → E.M0 b ∨ E.w0.heap.size ≤ b
  mine2 : ∀ m b s, η m = some (b, s) → (∃ m0 s0, E.η0 m0 = some (b, s0)) ∨ E.w0.heap.size ≤ b
  pin : ∀ m ob q, X.hp m = some ob → ob.row = false → E.η0 m = some q → η m = some q
  low : ∀ b, E.A b → b < E.w0.heap.size
  os : w.os = E.w0.os
  tape : w.tape = E.w0.tape
  output : w.output = E.w0.output
  par : ∀ m q, E.η0 m = some q → ∃ k, m = .p k
  glob : Γ.G E.w0
  gle : Γ.gs ≤ E.w0.heap.size
  gM : ∀ b, E.M0 b → Γ.gs ≤ b

theorem ObRep.lt {w : World} {M : Nat → Prop} {η : Et} {m : Nm} {ob : Ob} (h : ObRep w M η m ob) {b s : Nat} (hm : η m = some (b, s)) : b < w.heap.size := by
  simp only [ObRep, hm] at h
  obtain ⟨cur, fr, hc, _⟩ := h
  exact (Array.getElem?_eq_some_iff.1 hc).1

theorem HpOk.lt {w : World} {A : Nat → Prop} {hp : Nm → Option Ob} {η : Et} (h : HpOk w A hp η) {m : Nm} {b s : Nat} (hm : η m = some (b, s)) : b < w.heap.size := by
  cases ho : hp m with
  | none => exact absurd ho (h.dom m _ hm)
  | some ob => exact (h.objs m ob ho).lt hm

theorem ObRep.keeps {w w' : World} {M M' : Nat → Prop} {η η' : Et} {m : Nm} {ob : Ob} (hk : Keeps w w' M) (hM : ∀ b, b < w.heap.size → M' b → M b)
    (hb : ∀ b s, η m = some (b, s) → w'.heap[b]? = w.heap[b]?) (hm : η' m = η m) (hη : ∀ m' q, D.hasL m' ob.cells = true → η m' = some q → η' m' = some q) (h : ObRep w M η m ob) : ObRep w' M' η' m ob := by
  unfold ObRep at *
  rw [hm]
  split
  · rename_i e; simpa [e] using h
  · rename_i b s e
    simp only [e] at h
    obtain ⟨cur, fr, h1, h1', h2, h3, h4, h5⟩ := h
    exact ⟨cur, fr, (hb b s e).trans h1, h1', h2, h3, h4, Reps.keeps hk hM _ _ hη h5⟩

/-- A slot is written. -/
theorem Sim.put {Γ : Gl} {E : Env} {X : St} {a : Act} {w : World} {η : Et} (h : Sim Γ E X a w η) {d : D} {u : Value} (hd : Rep w (Mx X.hp η E.A) η d u) (s : Option Nat) :
    Sim Γ E { X with sl := match s with | some s => X.sl.set s d | none => X.sl } (a.put s u) w η := by
  cases s with
  | none => exact h
  | some s => exact { h with slots := by simpa [Act.put, Array.toList_setIfInBounds] using h.slots.set s hd, defers := h.defers }

/-- The heap is what it was. -/
theorem Sim.world {Γ : Gl} {E : Env} {X : St} {a : Act} {w : World} {η : Et} (h : Sim Γ E X a w η) {w' : World} (hh : w'.heap = w.heap) (h1 : w'.os = w.os) (h2 : w'.tape = w.tape) (h3 : w'.output = w.output) : Sim Γ E X a w' η := by
  have hk : ∀ M, Keeps w w' M := fun M b _ _ => by rw [hh]
  exact {
    slots := RepsA.keeps (hk _) (fun _ _ h => h) _ _ (fun _ _ _ h => h) h.slots
    ok := ⟨fun m ob hm => (h.ok.objs m ob hm).keeps (hk _) (fun _ _ h => h) (fun _ _ _ => by rw [hh]) rfl (fun _ _ _ h => h), h.ok.dom, h.ok.inj, h.ok.noA⟩
    defers := h.defers
    size := by rw [hh]; exact h.size
    keep := fun b hb hM => by rw [hh]; exact h.keep b hb hM
    mine := h.mine
    mine2 := h.mine2
    pin := h.pin
    low := h.low
    os := h1.trans h.os
    tape := h2.trans h.tape
    output := h3.trans h.output
    par := h.par
    glob := h.glob
    gle := h.gle
    gM := h.gM }

/-- An object is made. -/
theorem Sim.new {Γ : Gl} {E : Env} {X : St} {a : Act} {w : World} {η : Et} (h : Sim Γ E X a w η) {m : Nm} (hm : X.hp m = none) (he : E.η0 m = none) (ob : Ob) (cur : Array Value) (fr : Nat × Nat) (hfr : ∀ j, j < cur.size → ¬ (fr.1 ≤ j ∧ j < fr.2)) (ho : ob.own = true)
    (hl : ob.cells.length ≤ cur.size) (hb : ob.row = false → ob.cells.length = cur.size) (hc : Reps w (Mx X.hp η E.A) η ob.cells (cur.toList.take ob.cells.length)) :
    Sim Γ E { X with hp := upd X.hp m (some ob) } a (w.alloc (.cells cur ob.ty fr)) (updE η m (some (w.heap.size, cur.size))) := by
  have hk : Keeps w (w.alloc (.cells cur ob.ty fr)) (Mx X.hp η E.A) := fun b hb _ => heap_alloc_old w _ b hb
  have hηm : η m = none := by
    cases e : η m with
    | none => rfl
    | some q => exact absurd hm (h.ok.dom m q e)
  have hη : ∀ m' q, η m' = some q → updE η m (some (w.heap.size, cur.size)) m' = some q := fun m' q hq => by
    rw [updE_ne]
    · exact hq
    · rintro rfl; rw [hηm] at hq; cases hq
  have hM : ∀ b, b < w.heap.size → Mx (upd X.hp m (some ob)) (updE η m (some (w.heap.size, cur.size))) E.A b → Mx X.hp η E.A b := by
    rintro b hb (⟨m', ob', s, h1, h2, h3⟩ | h1)
    · by_cases e : m' = m
      · subst e
        simp at h3
        omega
      · rw [upd_ne e] at h1
        rw [updE_ne e] at h3
        exact .inl ⟨m', ob', s, h1, h2, h3⟩
    · exact .inr h1
  have hA : ∀ b, E.A b → b < w.heap.size := fun b hb => Nat.lt_of_lt_of_le (h.low b hb) h.size
  refine { slots := RepsA.keeps hk hM _ _ (fun m' q _ => hη m' q) h.slots, ok := ⟨?_, ?_, ?_, ?_⟩, defers := h.defers, size := ?_, keep := ?_, mine := ?_, mine2 := ?_, pin := ?_, low := h.low, os := h.os, tape := h.tape, output := h.output, par := h.par, glob := h.glob, gle := h.gle, gM := h.gM }
  · intro m' ob' hm'
    by_cases e : m' = m
    · subst e
      simp at hm'
      subst hm'
      simp only [ObRep, updE_same]
      exact ⟨cur, fr, heap_alloc_new w _, hfr, rfl, hl, (fun h _ => hb h), Reps.keeps hk hM _ _ (fun m' q _ => hη m' q) hc⟩
    · have hm'' : X.hp m' = some ob' := by simpa [upd_ne e] using hm'
      exact (h.ok.objs m' ob' hm'').keeps hk hM (fun b s hb => heap_alloc_old w _ b (h.ok.lt hb)) (updE_ne e) (fun m' q _ => hη m' q)
  · intro m' q hq
    by_cases e : m' = m
    · subst e; simp
    · rw [updE_ne e] at hq
      simpa [upd_ne e] using h.ok.dom m' q hq
  · intro m1 m2 b s s' h1 h2
    by_cases e1 : m1 = m <;> by_cases e2 : m2 = m
    · rw [e1, e2]
    · subst e1
      rw [updE_ne e2] at h2
      simp at h1
      have := h.ok.lt h2
      omega
    · subst e2
      rw [updE_ne e1] at h1
      simp at h2
      have := h.ok.lt h1
      omega
    · rw [updE_ne e1] at h1
      rw [updE_ne e2] at h2
      exact h.ok.inj m1 m2 b s s' h1 h2
  · intro m' b s hq hAb
    by_cases e : m' = m
    · subst e
      simp at hq
      have := hA b hAb
      omega
    · rw [updE_ne e] at hq
      exact h.ok.noA m' b s hq hAb
  · simp; have := h.size; omega
  · intro b hb hM0
    rw [heap_alloc_old w _ b (Nat.lt_of_lt_of_le hb h.size)]
    exact h.keep b hb hM0
  · intro m' ob' b s h1 h2 h3
    by_cases e : m' = m
    · subst e
      simp at h3
      exact .inr (by have := h.size; omega)
    · rw [updE_ne e] at h3
      exact h.mine m' ob' b s (by simpa [upd_ne e] using h1) h2 h3
  · intro m' b s h3
    by_cases e : m' = m
    · subst e
      simp at h3
      exact .inr (by have := h.size; omega)
    · rw [updE_ne e] at h3
      exact h.mine2 m' b s h3
  · intro m' ob' q h1 h2 h3
    by_cases e : m' = m
    · subst e
      rw [he] at h3
      cases h3
    · rw [updE_ne e]
      exact h.pin m' ob' q (by simpa [upd_ne e] using h1) h2 h3

/-- A block of an own object is written. -/
theorem Sim.write {Γ : Gl} {E : Env} {X : St} {a : Act} {w : World} {η : Et} (h : Sim Γ E X a w η) {m : Nm} {ob : Ob} (hm : X.hp m = some ob) (ho : ob.own = true) {b s : Nat} (hη : η m = some (b, s)) (cs : List D) (cur : Array Value)
    (hs : cur.size = s) (hl : cs.length ≤ s) (hb : ob.row = false → ob.ty ≠ looseT → cs.length = s) (hc : Reps w (Mx X.hp η E.A) η cs (cur.toList.take cs.length)) :
    Sim Γ E { X with hp := upd X.hp m (some { ob with cells := cs }) } a (w.setRow b cur) η := by
  have hMut : Mut X.hp η b := ⟨m, ob, s, hm, ho, hη⟩
  have hk : Keeps w (w.setRow b cur) (Mx X.hp η E.A) := fun b' hb' hM => setRow_other w b b' cur (fun e => hM (e ▸ .inl hMut))
  have hM : ∀ b', b' < w.heap.size → Mx (upd X.hp m (some { ob with cells := cs })) η E.A b' → Mx X.hp η E.A b' := by
    rintro b' hb' (⟨m', ob', s', h1, h2, h3⟩ | h1)
    · by_cases e : m' = m
      · subst e
        exact .inl ⟨m', ob, s', hm, ho, h3⟩
      · rw [upd_ne e] at h1
        exact .inl ⟨m', ob', s', h1, h2, h3⟩
    · exact .inr h1
  obtain ⟨old, fr, hold, hfr, hos⟩ : ∃ old fr, w.heap[b]? = some (.cells old ob.ty fr) ∧ (∀ j, j < old.size → ¬ (fr.1 ≤ j ∧ j < fr.2)) ∧ old.size = s := by
    have := h.ok.objs m ob hm
    simp only [ObRep, hη] at this
    obtain ⟨cur, fr, h1, h2, h3, _⟩ := this
    exact ⟨cur, fr, h1, h2, h3⟩
  refine { slots := RepsA.keeps hk hM _ _ (fun _ _ _ h => h) h.slots, ok := ⟨?_, ?_, h.ok.inj, h.ok.noA⟩, defers := h.defers, size := by simpa using h.size, keep := ?_, mine := ?_, mine2 := h.mine2, pin := ?_, low := h.low, os := h.os, tape := h.tape, output := h.output, par := h.par, glob := h.glob, gle := h.gle, gM := h.gM }
  · intro m' ob' hm'
    by_cases e : m' = m
    · subst e
      simp at hm'
      subst hm'
      simp only [ObRep, hη]
      exact ⟨cur, fr, setRow_heap w b old cur _ _ hold, (by rw [hs, ← hos]; exact hfr), hs, hl, hb, Reps.keeps hk hM _ _ (fun _ _ _ h => h) hc⟩
    · have hm'' : X.hp m' = some ob' := by simpa [upd_ne e] using hm'
      refine (h.ok.objs m' ob' hm'').keeps hk hM (fun b' s' hb' => setRow_other w b b' cur ?_) rfl (fun _ _ _ h => h)
      rintro rfl
      exact e (h.ok.inj m' m _ _ _ hb' hη)
  · intro m' q hq
    by_cases e : m' = m
    · subst e; simp
    · simpa [upd_ne e] using h.ok.dom m' q hq
  · intro b' hb' hM0
    by_cases e : b' = b
    · subst e
      rcases h.mine m ob b' s hm ho hη with h1 | h1
      · exact absurd h1 hM0
      · omega
    · rw [setRow_other w b b' cur e]
      exact h.keep b' hb' hM0
  · intro m' ob' b' s' h1 h2 h3
    by_cases e : m' = m
    · subst e
      exact h.mine m' ob b' s' hm ho h3
    · exact h.mine m' ob' b' s' (by simpa [upd_ne e] using h1) h2 h3
  · intro m' ob' q h1 h2 h3
    by_cases e : m' = m
    · subst e
      simp at h1
      subst h1
      exact h.pin m' ob q hm h2 h3
    · exact h.pin m' ob' q (by simpa [upd_ne e] using h1) h2 h3

/-! ### names that are forgotten -/
def D.poi (m : Nm) (d : D) : D := if d.has m then .bad else d
def Ob.poi (m : Nm) (ob : Ob) : Ob := { ob with cells := ob.cells.map (D.poi m) }
def St.poi (m : Nm) (X : St) : St := { sl := X.sl.map (D.poi m), hp := fun m' => (X.hp m').map (Ob.poi m) }
theorem D.has_poi (m : Nm) (d : D) : (d.poi m).has m = false := by
  unfold D.poi
  split
  · rfl
  · rename_i h; simpa using h
theorem D.hasL_poi (m : Nm) : ∀ ds : List D, D.hasL m (ds.map (D.poi m)) = false
  | [] => rfl
  | d :: ds => by simp [D.hasL, D.has_poi, D.hasL_poi m ds]
theorem Rep.poi {w : World} {M : Nat → Prop} {η : Et} {d : D} {u : Value} (h : Rep w M η d u) (m : Nm) : Rep w M η (d.poi m) u := by
  unfold D.poi
  split
  · trivial
  · exact h
theorem RepsA.poi {w : World} {M : Nat → Prop} {η : Et} (m : Nm) : ∀ {ds : List D} {us : List Value}, RepsA w M η ds us → RepsA w M η (ds.map (D.poi m)) us
  | [], us, h => h
  | d :: ds, us, h => by
    obtain ⟨u, us', hu, h2, h3⟩ := h
    exact ⟨u, us', hu, h2.poi m, RepsA.poi m h3⟩
theorem Reps.poi {w : World} {M : Nat → Prop} {η : Et} (m : Nm) : ∀ {ds : List D} {us : List Value}, Reps w M η ds us → Reps w M η (ds.map (D.poi m)) us
  | [], us, h => h
  | d :: ds, us, h => by
    obtain ⟨u, us', hu, h1, h2, h3⟩ := h
    exact ⟨u, us', hu, h1, h2.poi m, Reps.poi m h3⟩
theorem Mut_poi {hp : Nm → Option Ob} {η : Et} (m : Nm) (b : Nat) : Mut (fun m' => (hp m').map (Ob.poi m)) η b ↔ Mut hp η b := by
  constructor
  · rintro ⟨m', ob, s, h1, h2, h3⟩
    simp only [Option.map_eq_some_iff] at h1
    obtain ⟨ob', h1, rfl⟩ := h1
    exact ⟨m', ob', s, h1, h2, h3⟩
  · rintro ⟨m', ob, s, h1, h2, h3⟩
    exact ⟨m', ob.poi m, s, by simp [h1], h2, h3⟩
theorem Mx_poi {hp : Nm → Option Ob} {η : Et} {A : Nat → Prop} (m : Nm) : Mx (fun m' => (hp m').map (Ob.poi m)) η A = Mx hp η A := by
  funext b
  simp [Mx, Mut_poi]
theorem Sim.poi {Γ : Gl} {E : Env} {X : St} {a : Act} {w : World} {η : Et} (h : Sim Γ E X a w η) (m : Nm) : Sim Γ E (X.poi m) a w η := by
  refine { slots := ?_, ok := ⟨?_, ?_, h.ok.inj, h.ok.noA⟩, defers := h.defers, size := h.size, keep := h.keep, mine := ?_, mine2 := h.mine2, pin := ?_, low := h.low, os := h.os, tape := h.tape, output := h.output, par := h.par, glob := h.glob, gle := h.gle, gM := h.gM }
  · simp only [St.poi, Mx_poi]
    exact h.slots.poi m
  · intro m' ob hm'
    simp only [St.poi, Option.map_eq_some_iff] at hm'
    obtain ⟨ob', h1, rfl⟩ := hm'
    have := h.ok.objs m' ob' h1
    simp only [St.poi, Mx_poi]
    unfold ObRep at *
    split
    · rename_i e
      simp only [e] at this
      exact ⟨this.1, by simp [Ob.poi, this.2]⟩
    · rename_i b s e
      simp only [e] at this
      obtain ⟨cur, fr, h2, h2', h3, h4, h5, h6⟩ := this
      exact ⟨cur, fr, h2, h2', h3, by simpa [Ob.poi] using h4, by simpa [Ob.poi] using h5, by simpa [Ob.poi] using h6.poi m⟩
  · intro m' q hq
    simpa [St.poi] using h.ok.dom m' q hq
  · intro m' ob b s h1 h2 h3
    simp only [St.poi, Option.map_eq_some_iff] at h1
    obtain ⟨ob', h1, rfl⟩ := h1
    exact h.mine m' ob' b s h1 h2 h3
  · intro m' ob q h1 h2 h3
    simp only [St.poi, Option.map_eq_some_iff] at h1
    obtain ⟨ob', h1, rfl⟩ := h1
    exact h.pin m' ob' q h1 h2 h3

/-- A row has grown, in its block or in a new one; nobody else names it. -/
theorem Sim.grow {Γ : Gl} {E : Env} {X : St} {a : Act} {w : World} {η : Et} (h : Sim Γ E X a w η) {m : Nm} {ob : Ob} (hm : X.hp m = some ob) (ho : ob.own = true) (hr : ob.row = true) {w' : World} {row : Option Nat}
    (hns : D.hasL m X.sl = false) (hno : ∀ m' ob', m' ≠ m → X.hp m' = some ob' → D.hasL m ob'.cells = false)
    (hg : w.grownBy w' row) (hrow : ∀ k, row = some k → ∃ s, η m = some (k, s)) (cs : List D) (hnc : D.hasL m cs = false) (cur : Array Value) (fr : Nat × Nat) (b : Nat) (hb : row = some b ∨ w.heap.size ≤ b) (hh : w'.heap[b]? = some (.cells cur ob.ty fr)) (hfr : ∀ j, j < cur.size → ¬ (fr.1 ≤ j ∧ j < fr.2))
    (hl : cs.length ≤ cur.size) (hc : Reps w (Mx X.hp η E.A) η cs (cur.toList.take cs.length)) :
    Sim Γ E { X with hp := upd X.hp m (some { ob with cells := cs }) } a w' (updE η m (some (b, cur.size))) := by
  have hk : Keeps w w' (Mx X.hp η E.A) := fun b' hb' hM => hg.block b' hb' (fun e => by
    obtain ⟨s, hs⟩ := hrow b' e.symm
    exact hM (.inl ⟨m, ob, s, hm, ho, hs⟩))
  have hη : ∀ m' q, m' ≠ m → η m' = some q → updE η m (some (b, cur.size)) m' = some q := fun m' q hne hq => by rw [updE_ne hne]; exact hq
  have hηD : ∀ ds, D.hasL m ds = false → ∀ m' q, D.hasL m' ds = true → η m' = some q → updE η m (some (b, cur.size)) m' = some q := fun ds hd m' q h1 h2 => hη m' q (by rintro rfl; rw [hd] at h1; cases h1) h2
  have hbm : ∀ k, row = some k → ∃ s, η m = some (k, s) := hrow
  have hA : ∀ b', E.A b' → b' < w.heap.size := fun b hb => Nat.lt_of_lt_of_le (h.low b hb) h.size
  have hM : ∀ b', b' < w.heap.size → Mx (upd X.hp m (some { ob with cells := cs })) (updE η m (some (b, cur.size))) E.A b' → Mx X.hp η E.A b' := by
    rintro b' hb' (⟨m', ob', s', h1, h2, h3⟩ | h1)
    · by_cases e : m' = m
      · subst e
        simp at h3
        rcases hb with hb | hb
        · obtain ⟨s, hs⟩ := hrow b hb
          exact .inl ⟨m', ob, s, hm, ho, by rw [← h3.1]; exact hs⟩
        · omega
      · rw [upd_ne e] at h1
        rw [updE_ne e] at h3
        exact .inl ⟨m', ob', s', h1, h2, h3⟩
    · exact .inr h1
  refine { slots := RepsA.keeps hk hM _ _ (hηD _ hns) h.slots, ok := ⟨?_, ?_, ?_, ?_⟩, defers := h.defers, size := Nat.le_trans h.size hg.size, keep := ?_, mine := ?_, mine2 := ?_, pin := ?_, low := h.low, os := hg.os.trans h.os, tape := hg.tape.trans h.tape, output := hg.output.trans h.output, par := h.par, glob := h.glob, gle := h.gle, gM := h.gM }
  · intro m' ob' hm'
    by_cases e : m' = m
    · subst e
      simp at hm'
      subst hm'
      simp only [ObRep, updE_same]
      exact ⟨cur, fr, hh, hfr, rfl, hl, fun e => (by rw [hr] at e; cases e), Reps.keeps hk hM _ _ (hηD _ hnc) hc⟩
    · have hm'' : X.hp m' = some ob' := by simpa [upd_ne e] using hm'
      refine (h.ok.objs m' ob' hm'').keeps hk hM (fun b' s' hb' => hg.block b' (h.ok.lt hb') (fun e' => ?_)) (updE_ne e) (hηD _ (hno m' ob' e hm''))
      obtain ⟨s, hs⟩ := hrow b' e'.symm
      exact e (h.ok.inj m' m _ _ _ hb' hs)
  · intro m' q hq
    by_cases e : m' = m
    · subst e; simp
    · rw [updE_ne e] at hq
      simpa [upd_ne e] using h.ok.dom m' q hq
  · intro m1 m2 b1 s s' h1 h2
    have key : ∀ m' s'', m' ≠ m → η m' = some (b, s'') → False := by
      intro m' s'' hne hq
      rcases hb with hb | hb
      · obtain ⟨s, hs⟩ := hrow b hb
        exact hne (h.ok.inj m' m _ _ _ hq hs)
      · have := h.ok.lt hq
        omega
    by_cases e1 : m1 = m <;> by_cases e2 : m2 = m
    · rw [e1, e2]
    · subst e1
      rw [updE_ne e2] at h2
      simp at h1
      obtain ⟨rfl, _⟩ := h1
      exact (key m2 s' e2 h2).elim
    · subst e2
      rw [updE_ne e1] at h1
      simp at h2
      obtain ⟨rfl, _⟩ := h2
      exact (key m1 s e1 h1).elim
    · rw [updE_ne e1] at h1
      rw [updE_ne e2] at h2
      exact h.ok.inj m1 m2 b1 s s' h1 h2
  · intro m' b' s hq hAb
    by_cases e : m' = m
    · subst e
      simp at hq
      obtain ⟨rfl, _⟩ := hq
      rcases hb with hb | hb
      · obtain ⟨s, hs⟩ := hrow b hb
        exact h.ok.noA m' b s hs hAb
      · have := hA b hAb
        omega
    · rw [updE_ne e] at hq
      exact h.ok.noA m' b' s hq hAb
  · intro b' hb' hM0
    by_cases e : row = some b'
    · obtain ⟨s, hs⟩ := hrow b' e
      rcases h.mine m ob b' s hm ho hs with h1 | h1
      · exact absurd h1 hM0
      · omega
    · rw [hg.block b' (Nat.lt_of_lt_of_le hb' h.size) (fun e' => e e'.symm)]
      exact h.keep b' hb' hM0
  · intro m' ob' b' s' h1 h2 h3
    by_cases e : m' = m
    · subst e
      simp at h3
      obtain ⟨rfl, _⟩ := h3
      rcases hb with hb | hb
      · obtain ⟨s, hs⟩ := hrow b hb
        exact h.mine m' ob b s hm ho hs
      · exact .inr (Nat.le_trans h.size hb)
    · rw [updE_ne e] at h3
      exact h.mine m' ob' b' s' (by simpa [upd_ne e] using h1) h2 h3
  · intro m' b' s' h3
    by_cases e : m' = m
    · subst e
      simp at h3
      obtain ⟨rfl, _⟩ := h3
      rcases hb with hb | hb
      · obtain ⟨s, hs⟩ := hrow b hb
        exact h.mine2 m' b s hs
      · exact .inr (Nat.le_trans h.size hb)
    · rw [updE_ne e] at h3
      exact h.mine2 m' b' s' h3
  · intro m' ob' q h1 h2 h3
    by_cases e : m' = m
    · subst e
      simp at h1
      subst h1
      rw [hr] at h2
      cases h2
    · rw [updE_ne e]
      exact h.pin m' ob' q (by simpa [upd_ne e] using h1) h2 h3
end Go.Ot
