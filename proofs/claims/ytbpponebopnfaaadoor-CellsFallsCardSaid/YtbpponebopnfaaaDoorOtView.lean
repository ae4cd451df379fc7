/- One abstract state seen as another one: names turned, objects seen as trees, slots forgotten. -/
import Derived.Test.YtbpponebopnfaaaDoorOtRun
set_option linter.unusedVariables false
set_option linter.unusedSimpArgs false
namespace Go.Ot

mutual
/-- A tree, where a D is. -/
def VwT (hp : Nm → Option Ob) (len : Nm → Prop) : T → D → Prop
  | .v x, d => d = .t (.v x)
  | .sl n cs, d => d = .t (.sl n cs) ∨ (∃ m off sz ob, d = .msl m off n sz ∧ len m ∧ hp m = some ob ∧ off + n * sz ≤ ob.cells.length ∧ VwTs hp len cs ((ob.cells.drop off).take (n * sz))) ∨ (n = 0 ∧ cs = [] ∧ d = .t (.v (.slice none 0 0)))
  | .ifc t x, d => d = .t (.ifc t x) ∨ ∃ d', d = .ifc t d' ∧ VwT hp len x d'
  | .agg cs, d => d = .t (.agg cs) ∨ ∃ ds, d = .agg ds ∧ VwTs hp len cs ds
def VwTs (hp : Nm → Option Ob) (len : Nm → Prop) : List T → List D → Prop
  | [], ds => ds = []
  | c :: cs, ds => ∃ d ds', ds = d :: ds' ∧ VwT hp len c d ∧ VwTs hp len cs ds'
end
mutual
def Vw (src : Nm → Option Nm) (hp : Nm → Option Ob) (len : Nm → Prop) : D → D → Prop
  | .t x, d => VwT hp len x d
  | .bad, _ => True
  | .agg cs, d => ∃ ds, d = .agg ds ∧ VwL src hp len cs ds
  | .tup cs, d => ∃ ds, d = .tup ds ∧ VwL src hp len cs ds
  | .ifc ty c, d => ∃ d', d = .ifc ty d' ∧ Vw src hp len c d'
  | .ptr m off, d => ∃ m0, src m = some m0 ∧ d = .ptr m0 off
  | .rop cs, d => d = .rop cs ∨ ∃ m off ob, d = .ptr m off ∧ len m ∧ hp m = some ob ∧ VwTs hp len cs ((ob.cells.drop off).take cs.length)
  | .msl m off n sz, d => (∃ m0, src m = some m0 ∧ d = .msl m0 off n sz) ∨ (n = 0 ∧ d = .t (.v (.slice none 0 0)))
  | .fn f caps, d => ∃ ds, d = .fn f ds ∧ VwL src hp len caps ds
def VwL (src : Nm → Option Nm) (hp : Nm → Option Ob) (len : Nm → Prop) : List D → List D → Prop
  | [], ds => ds = []
  | c :: cs, ds => ∃ d ds', ds = d :: ds' ∧ Vw src hp len c d ∧ VwL src hp len cs ds'
end

@[simp] theorem VwT_refl (hp : Nm → Option Ob) (len : Nm → Prop) (x : T) : VwT hp len x (.t x) := by
  cases x <;> simp [VwT]
@[simp] theorem VwTs_refl (hp : Nm → Option Ob) (len : Nm → Prop) : ∀ cs : List T, VwTs hp len cs (cs.map .t)
  | [] => rfl
  | c :: cs => ⟨_, _, rfl, VwT_refl hp len c, VwTs_refl hp len cs⟩

structure Seen (w : World) (M M' : Nat → Prop) (η η' : Et) (src : Nm → Option Nm) (hp : Nm → Option Ob) (len : Nm → Prop) : Prop where
  sub : ∀ b, b < w.heap.size → M' b → M b
  objs : ∀ m ob, hp m = some ob → ObRep w M η m ob
  src : ∀ m m0 q, src m = some m0 → η m0 = some q → η' m = some q
  lent : ∀ m b s, len m → η m = some (b, s) → ¬ M' b

mutual
theorem VwT.rep {w : World} {M M' : Nat → Prop} {η η' : Et} {src : Nm → Option Nm} {hp : Nm → Option Ob} {len : Nm → Prop} (h : Seen w M M' η η' src hp len) : ∀ (x : T) (d : D) (u : Value), VwT hp len x d → Rep w M η d u → RepT w M' x u
  | .v x, d, u, hv, hr => by
    have hv : d = .t (.v x) := hv
    subst hv
    exact hr
  | .sl n cs, d, u, hv, hr => by
    have keep : ∀ (w : World) (y : T), RepT w M y u → (∀ b, b < w.heap.size → M' b → M b) → RepT w M' y u := fun w y hy hs => RepT.keeps (fun _ _ _ => rfl) hs y u hy
    rcases hv with rfl | ⟨m, off, sz, ob, rfl, hl, hm, hle, hv⟩ | ⟨rfl, rfl, rfl⟩
    · exact keep w _ hr h.sub
    · obtain ⟨A, c, rfl, hnc, hcm, hR⟩ := hr
      refine ⟨A, c, rfl, hnc, hcm, ?_⟩
      rcases hR with hR | ⟨b, s, hη, rfl, hR⟩
      · left
        have : n = 0 := by omega
        subst this
        simp only [Nat.zero_mul, List.take_zero] at hv
        cases cs with
        | nil => rfl
        | cons c cs => obtain ⟨_, _, h1, _⟩ := hv; cases h1
      · right
        refine ⟨_, rfl, h.lent m b s hl hη, ?_⟩
        have ho := h.objs m ob hm
        simp only [ObRep, hη] at ho
        obtain ⟨cur, fr, h1, h2, h3, h4, h5, h6⟩ := ho
        have hR2 := (h6.drop off).take (n * sz)
        refine VwTs.repAt h cs _ _ ⟨b, off, none⟩ 0 hv hR2 (fun j u hu => ?_)
        rw [Nat.zero_add, add_at, cell_of_row w b (off + j) cur ob.ty fr h1]
        rw [List.getElem?_take] at hu
        split at hu
        · rw [List.getElem?_drop, List.getElem?_take] at hu
          split at hu
          · simpa using hu
          · cases hu
        · cases hu
    · have hr : u = .slice none 0 0 := hr
      subst hr
      exact ⟨none, 0, rfl, Nat.le_refl _, Nat.zero_le _, .inl rfl⟩
  | .ifc t x, d, u, hv, hr => by
    rcases hv with rfl | ⟨d', rfl, hv⟩
    · exact RepT.keeps (fun _ _ _ => rfl) h.sub (.ifc t x) u hr
    · obtain ⟨y, rfl, hr⟩ := hr
      exact ⟨y, rfl, VwT.rep h x d' y hv hr⟩
  | .agg cs, d, u, hv, hr => by
    rcases hv with rfl | ⟨ds, rfl, hv⟩
    · exact RepT.keeps (fun _ _ _ => rfl) h.sub (.agg cs) u hr
    · obtain ⟨vs, rfl, hr⟩ := hr
      exact ⟨vs, rfl, VwTs.reps h cs ds _ hv hr⟩
theorem VwTs.reps {w : World} {M M' : Nat → Prop} {η η' : Et} {src : Nm → Option Nm} {hp : Nm → Option Ob} {len : Nm → Prop} (h : Seen w M M' η η' src hp len) : ∀ (cs : List T) (ds : List D) (us : List Value), VwTs hp len cs ds → Reps w M η ds us → RepTs w M' cs us
  | [], ds, us, hv, hr => by
    have hv : ds = [] := hv
    subst hv
    exact hr
  | c :: cs, ds, us, hv, hr => by
    obtain ⟨d, ds', rfl, h1, h2⟩ := hv
    obtain ⟨u, us', rfl, h3, h4, h5⟩ := hr
    exact ⟨u, us', rfl, h3, VwT.rep h c d u h1 h4, VwTs.reps h cs ds' us' h2 h5⟩
theorem VwTs.repAt {w : World} {M M' : Nat → Prop} {η η' : Et} {src : Nm → Option Nm} {hp : Nm → Option Ob} {len : Nm → Prop} (h : Seen w M M' η η' src hp len) : ∀ (cs : List T) (ds : List D) (us : List Value) (a : Addr) (j : Nat), VwTs hp len cs ds → Reps w M η ds us →
    (∀ i u, us[i]? = some u → w.cell? (a.add (j + i)) = some u) → RepTAt w M' a j cs
  | [], ds, us, a, j, hv, hr, hc => trivial
  | c :: cs, ds, us, a, j, hv, hr, hc => by
    obtain ⟨d, ds', rfl, h1, h2⟩ := hv
    obtain ⟨u, us', rfl, h3, h4, h5⟩ := hr
    refine ⟨⟨u, by simpa using hc 0 u (by simp), h3, VwT.rep h c d u h1 h4⟩, VwTs.repAt h cs ds' us' a (j + 1) h2 h5 (fun i u hu => ?_)⟩
    have := hc (i + 1) u (by simpa using hu)
    rwa [show j + (i + 1) = j + 1 + i from by omega] at this
end
mutual
theorem Vw.rep {w : World} {M M' : Nat → Prop} {η η' : Et} {src : Nm → Option Nm} {hp : Nm → Option Ob} {len : Nm → Prop} (h : Seen w M M' η η' src hp len) : ∀ (c d : D) (u : Value), Vw src hp len c d → Rep w M η d u → Rep w M' η' c u
  | .t x, d, u, hv, hr => VwT.rep h x d u hv hr
  | .bad, d, u, hv, hr => trivial
  | .agg cs, d, u, hv, hr => by
    obtain ⟨ds, rfl, hv⟩ := hv
    obtain ⟨vs, rfl, hr⟩ := hr
    exact ⟨vs, rfl, VwL.reps h cs ds _ hv hr⟩
  | .tup cs, d, u, hv, hr => by
    obtain ⟨ds, rfl, hv⟩ := hv
    obtain ⟨vs, rfl, hr⟩ := hr
    exact ⟨vs, rfl, VwL.repsA h cs ds _ hv hr⟩
  | .ifc ty c, d, u, hv, hr => by
    obtain ⟨d', rfl, hv⟩ := hv
    obtain ⟨x, rfl, hr⟩ := hr
    exact ⟨x, rfl, Vw.rep h c d' x hv hr⟩
  | .ptr m off, d, u, hv, hr => by
    obtain ⟨m0, hs, rfl⟩ := hv
    obtain ⟨b, s, hη, rfl⟩ := hr
    exact ⟨b, s, h.src m m0 _ hs hη, rfl⟩
  | .rop cs, d, u, hv, hr => by
    rcases hv with rfl | ⟨m, off, ob, rfl, hl, hm, hv⟩
    · exact Rep.keeps (fun _ _ _ => rfl) h.sub (.rop cs) u (by simp [D.has]) hr
    · obtain ⟨b, s, hη, rfl⟩ := hr
      have ho := h.objs m ob hm
      simp only [ObRep, hη] at ho
      obtain ⟨cur, fr, h1, h2, h3, h4, h5, h6⟩ := ho
      have hR2 := (h6.drop off).take cs.length
      refine ⟨_, rfl, .inr ⟨h.lent m b s hl hη, VwTs.repAt h cs _ _ ⟨b, off, none⟩ 0 hv hR2 (fun j u hu => ?_)⟩⟩
      rw [Nat.zero_add, add_at, cell_of_row w b (off + j) cur ob.ty fr h1]
      rw [List.getElem?_take] at hu
      split at hu
      · rw [List.getElem?_drop, List.getElem?_take] at hu
        split at hu
        · simpa using hu
        · cases hu
      · cases hu
  | .msl m off n sz, d, u, hv, hr => by
    rcases hv with ⟨m0, hs, rfl⟩ | ⟨rfl, rfl⟩
    · obtain ⟨A, c, rfl, hnc, hcm, hR⟩ := hr
      refine ⟨A, c, rfl, hnc, hcm, ?_⟩
      rcases hR with hR | ⟨b, s, hη, h1, h2⟩
      · exact .inl hR
      · exact .inr ⟨b, s, h.src m m0 _ hs hη, h1, h2⟩
    · have hr : u = .slice none 0 0 := hr
      subst hr
      exact ⟨none, 0, rfl, Nat.le_refl _, Nat.zero_le _, .inl rfl⟩
  | .fn f caps, d, u, hv, hr => by
    obtain ⟨ds, rfl, hv⟩ := hv
    obtain ⟨vs, rfl, hr⟩ := hr
    exact ⟨vs, rfl, VwL.repsA h caps ds _ hv hr⟩
theorem VwL.reps {w : World} {M M' : Nat → Prop} {η η' : Et} {src : Nm → Option Nm} {hp : Nm → Option Ob} {len : Nm → Prop} (h : Seen w M M' η η' src hp len) : ∀ (cs ds : List D) (us : List Value), VwL src hp len cs ds → Reps w M η ds us → Reps w M' η' cs us
  | [], ds, us, hv, hr => by
    have hv : ds = [] := hv
    subst hv
    exact hr
  | c :: cs, ds, us, hv, hr => by
    obtain ⟨d, ds', rfl, h1, h2⟩ := hv
    obtain ⟨u, us', rfl, h3, h4, h5⟩ := hr
    exact ⟨u, us', rfl, h3, Vw.rep h c d u h1 h4, VwL.reps h cs ds' us' h2 h5⟩
theorem VwL.repsA {w : World} {M M' : Nat → Prop} {η η' : Et} {src : Nm → Option Nm} {hp : Nm → Option Ob} {len : Nm → Prop} (h : Seen w M M' η η' src hp len) : ∀ (cs ds : List D) (us : List Value), VwL src hp len cs ds → RepsA w M η ds us → RepsA w M' η' cs us
  | [], ds, us, hv, hr => by
    have hv : ds = [] := hv
    subst hv
    exact hr
  | c :: cs, ds, us, hv, hr => by
    obtain ⟨d, ds', rfl, h1, h2⟩ := hv
    obtain ⟨u, us', rfl, h4, h5⟩ := hr
    exact ⟨u, us', rfl, Vw.rep h c d u h1 h4, VwL.repsA h cs ds' us' h2 h5⟩
end

/-- What holds of the turned names. -/
structure HpVw (src : Nm → Option Nm) (len : Nm → Prop) (hp hp' : Nm → Option Ob) : Prop where
  objs : ∀ m ob', hp' m = some ob' → (src m = none ∧ ob'.row = true ∧ ob'.cells = []) ∨ ∃ m0 ob, src m = some m0 ∧ hp m0 = some ob ∧ ob'.ty = ob.ty ∧ rowOk m0 ob' ob ∧ (ob'.own = true → ob.own = true) ∧ VwL src hp len ob'.cells ob.cells
  dom : ∀ m m0, src m = some m0 → hp' m ≠ none
  inj : ∀ m m' m0, src m = some m0 → src m' = some m0 → m = m'
  lent : ∀ m m0 ob', src m = some m0 → len m0 → hp' m = some ob' → ob'.own = false

theorem VwL.length {src : Nm → Option Nm} {hp : Nm → Option Ob} {len : Nm → Prop} : ∀ {cs ds : List D}, VwL src hp len cs ds → ds.length = cs.length
  | [], ds, h => by have h : ds = [] := h; simp [h]
  | c :: cs, ds, h => by obtain ⟨d, ds', rfl, _, h2⟩ := h; simp [VwL.length h2]

theorem HpVw.ok {src : Nm → Option Nm} {len : Nm → Prop} {hp hp' : Nm → Option Ob} (hv : HpVw src len hp hp') {w : World} {A A' : Nat → Prop} {η : Et} (h : HpOk w A hp η) (hA : ∀ b, b < w.heap.size → A' b → Mx hp η A b) (hA2 : ∀ m m0 b s, src m = some m0 → η m0 = some (b, s) → ¬ A' b) (hA3 : ∀ m b s, len m → η m = some (b, s) → ¬ A' b) :
    Seen w (Mx hp η A) (Mx hp' (fun m => (src m).bind η) A') η (fun m => (src m).bind η) src hp len ∧ HpOk w A' hp' (fun m => (src m).bind η) := by
  have own : ∀ m ob' m0, hp' m = some ob' → src m = some m0 → ∃ ob, hp m0 = some ob ∧ (ob'.own = true → ob.own = true) := by
    intro m ob' m0 h1 h2
    rcases hv.objs m ob' h1 with ⟨h3, _⟩ | ⟨m1, ob, h3, h4, _, _, h5, _⟩
    · rw [h2] at h3; cases h3
    · rw [h2] at h3; cases h3; exact ⟨ob, h4, h5⟩
  have sn : Seen w (Mx hp η A) (Mx hp' (fun m => (src m).bind η) A') η (fun m => (src m).bind η) src hp len := by
    refine ⟨fun b hb => ?_, h.objs, fun m m0 q h1 h2 => by simp [h1, h2], fun m b s hl hη => ?_⟩
    · rintro (⟨m, ob', s, h1, h2, h3⟩ | h1)
      · cases hs : src m with
        | none => simp [hs] at h3
        | some m0 =>
          simp only [hs, Option.bind_some] at h3
          obtain ⟨ob, h4, h5⟩ := own m ob' m0 h1 hs
          exact .inl ⟨m0, ob, s, h4, h5 h2, h3⟩
      · exact hA b hb h1
    · rintro (⟨m', ob', s', h1, h2, h3⟩ | h1)
      · cases hs : src m' with
        | none => simp [hs] at h3
        | some m0 =>
          simp only [hs, Option.bind_some] at h3
          have e := h.inj m0 m b s' s h3 hη
          subst e
          have := hv.lent m' m0 ob' hs hl h1
          rw [this] at h2
          cases h2
      · exact hA3 m b s hl hη h1
  refine ⟨sn, ⟨fun m ob' h1 => ?_, fun m q h1 => ?_, fun m m' b s s' h1 h2 => ?_, fun m b s h1 => ?_⟩⟩
  · rcases hv.objs m ob' h1 with ⟨h2, h3, h4⟩ | ⟨m0, ob, h2, h3, h4, h5, h6, h7⟩
    · simp [ObRep, h2, h3, h4]
    · have ho := h.objs m0 ob h3
      unfold ObRep at ho ⊢
      simp only [h2, Option.bind_some]
      split
      · rename_i e
        simp only [e] at ho
        have hl7 := h7.length
        rw [ho.2] at hl7
        have hnil : ob'.cells = [] := List.eq_nil_of_length_eq_zero (by simpa using hl7.symm)
        refine ⟨?_, hnil⟩
        rcases h5 with h5 | ⟨_, _, h5, _⟩
        · rw [h5]; exact ho.1
        · exact absurd hnil h5
      · rename_i b s e
        simp only [e] at ho
        obtain ⟨cur, fr, g1, g2, g3, g4, g5, g6⟩ := ho
        have hl := h7.length
        rw [hl] at g4 g6
        exact ⟨cur, fr, by rw [h4]; exact g1, g2, g3, g4, (by
          rw [h4, ← hl]
          rcases h5 with h5 | ⟨_, h5, _⟩
          · rw [h5]; exact g5
          · exact fun _ hne => absurd h5 hne), VwL.reps sn _ _ _ h7 g6⟩
  · cases hs : src m with
    | none => simp [hs] at h1
    | some m0 => exact hv.dom m m0 hs
  · cases hs : src m with
    | none => simp [hs] at h1
    | some m0 =>
      cases hs' : src m' with
      | none => simp [hs'] at h2
      | some m0' =>
        simp only [hs, hs', Option.bind_some] at h1 h2
        have e := h.inj m0 m0' b s s' h1 h2
        subst e
        exact hv.inj m m' m0 hs hs'
  · cases hs : src m with
    | none => simp [hs] at h1
    | some m0 =>
      simp only [hs, Option.bind_some] at h1
      exact hA2 m m0 b s hs h1

/-- A state seen as another one, of the same frame. -/
structure View (src : Nm → Option Nm) (len : Nm → Prop) (X X' : St) : Prop where
  slots : VwL src X.hp len X'.sl X.sl
  hp : HpVw src len X.hp X'.hp
  par : ∀ k m0, src (.p k) = some m0 → m0 = .p k
  pin : ∀ k ob', X'.hp (.p k) = some ob' → ob'.row = false → src (.p k) = some (.p k)

theorem Sim.view {Γ : Gl} {E : Env} {X X' : St} {a : Act} {w : World} {η : Et} (h : Sim Γ E X a w η) {src : Nm → Option Nm} {len : Nm → Prop} (hv : View src len X X') : Sim Γ E X' a w (fun m => (src m).bind η) := by
  obtain ⟨sn, ok⟩ := hv.hp.ok h.ok (fun b _ hb => .inr hb) (fun m m0 b s _ hη => h.ok.noA m0 b s hη) (fun m b s _ hη => h.ok.noA m b s hη)
  refine { slots := VwL.repsA sn _ _ _ hv.slots h.slots, ok := ok, defers := h.defers, size := h.size, keep := h.keep, mine := ?_, mine2 := ?_, pin := ?_, low := h.low, os := h.os, tape := h.tape, output := h.output, par := h.par, glob := h.glob, gle := h.gle, gM := h.gM }
  · intro m ob' b s h1 h2 h3
    rcases hv.hp.objs m ob' h1 with ⟨h4, _⟩ | ⟨m0, ob, h4, h5, _, _, h6, _⟩
    · simp [h4] at h3
    · simp only [h4, Option.bind_some] at h3
      exact h.mine m0 ob b s h5 (h6 h2) h3
  · intro m b s h3
    cases hs : src m with
    | none => simp [hs] at h3
    | some m0 =>
      simp only [hs, Option.bind_some] at h3
      exact h.mine2 m0 b s h3
  · intro m ob' q h1 h2 h3
    obtain ⟨k, rfl⟩ := h.par m q h3
    have hs := hv.pin k ob' h1 h2
    simp only [hs, Option.bind_some]
    rcases hv.hp.objs _ ob' h1 with ⟨h4, _⟩ | ⟨m0, ob, h4, h5, _, h6, _⟩
    · rw [hs] at h4; cases h4
    · rw [hs] at h4
      cases h4
      rcases h6 with h6 | ⟨_, _, _, h6⟩
      · exact h.pin _ ob q h5 (by rw [← h6]; exact h2) h3
      · cases h6

/-- Whatever the first state is of, the second one is, too. -/
def Le (Γ : Gl) (X X' : St) : Prop := ∀ (E : Env) (a : Act) (w : World) (η : Et), Sim Γ E X a w η → ∃ η', Sim Γ E X' a w η'
theorem Le.refl (Γ : Gl) (X : St) : Le Γ X X := fun _ _ _ η h => ⟨η, h⟩
theorem Le.trans {Γ : Gl} {X Y Z : St} (h : Le Γ X Y) (k : Le Γ Y Z) : Le Γ X Z := fun E a w η hS => by
  obtain ⟨η', h'⟩ := h E a w η hS
  exact k E a w η' h'
theorem View.le {Γ : Gl} {X X' : St} {src : Nm → Option Nm} {len : Nm → Prop} (h : View src len X X') : Le Γ X X' := fun _ _ _ _ hS => ⟨_, hS.view h⟩
end Go.Ot
