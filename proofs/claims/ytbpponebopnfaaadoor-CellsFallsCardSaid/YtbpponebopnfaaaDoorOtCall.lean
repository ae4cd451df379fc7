/- Contracts of functions, in abstract terms; calls. -/
import Derived.Test.YtbpponebopnfaaaDoorOtView
set_option linter.unusedVariables false
set_option linter.unusedSimpArgs false
namespace Go.Ot

def HpOf (ps : List Ob) : Nm → Option Ob
  | .p k => ps[k]?
  | _ => none
def HpRes (ps' : List (Option Ob)) (ns : List Ob) : Nm → Option Ob
  | .p k => (ps'[k]?).join
  | .n k => ns[k]?
  | _ => none

/-- Of whatever world and memory: the call returns what r says, the objects that were handed over are as ps' says, those that were made as ns says; all else is as it was. -/
def Good (Γ : Gl) (P : Program) (f : FuncId) (args : List D) (ps : List Ob) (r : D) (ps' : List (Option Ob)) (ns : List Ob) : Prop :=
  ∀ (w : World) (A : Nat → Prop) (η : Et) (vals : List Value), Γ.G w → Γ.gs ≤ w.heap.size → (∀ b, A b → b < w.heap.size) → HpOk w A (HpOf ps) η → (∀ m q, η m = some q → ∃ k, m = .p k) → (∀ b, Mut (HpOf ps) η b → Γ.gs ≤ b) →
    RepsA w (Mx (HpOf ps) η A) η args vals →
    Calls P f vals.toArray w fun e w' => ∃ v η', e = .returned v ∧ Rep w' (Mx (HpRes ps' ns) η' A) η' r v ∧ HpOk w' A (HpRes ps' ns) η' ∧ w.heap.size ≤ w'.heap.size ∧ (∀ b, b < w.heap.size → ¬ Mut (HpOf ps) η b → w'.heap[b]? = w.heap[b]?) ∧
      (∀ m ob b s, HpRes ps' ns m = some ob → ob.own = true → η' m = some (b, s) → Mut (HpOf ps) η b ∨ w.heap.size ≤ b) ∧ (∀ m b s, η' m = some (b, s) → (∃ m0 s0, η m0 = some (b, s0)) ∨ w.heap.size ≤ b) ∧ (∀ m ob q, HpRes ps' ns m = some ob → ob.row = false → η m = some q → η' m = some q) ∧ w'.os = w.os ∧ w'.tape = w.tape ∧ w'.output = w.output

mutual
def D.ren (ρ : Nm → Nm) : D → D
  | .t x => .t x
  | .bad => .bad
  | .agg cs => .agg (D.renL ρ cs)
  | .tup cs => .tup (D.renL ρ cs)
  | .ifc ty d => .ifc ty (D.ren ρ d)
  | .ptr m off => .ptr (ρ m) off
  | .rop cs => .rop cs
  | .msl m off n sz => .msl (ρ m) off n sz
  | .fn f caps => .fn f (D.renL ρ caps)
def D.renL (ρ : Nm → Nm) : List D → List D
  | [] => []
  | d :: ds => D.ren ρ d :: D.renL ρ ds
end
mutual
/-- No tree in it that leads to memory. -/
def D.flat : D → Bool
  | .t x => T.flat x
  | .bad => true
  | .agg cs => D.flatL cs
  | .tup cs => D.flatL cs
  | .ifc _ d => D.flat d
  | .ptr _ _ => true
  | .rop cs => cs.isEmpty
  | .msl _ _ _ _ => true
  | .fn _ caps => D.flatL caps
def D.flatL : List D → Bool
  | [] => true
  | d :: ds => D.flat d && D.flatL ds
def T.flat : T → Bool
  | .v _ => true
  | .sl _ cs => cs.isEmpty
  | .ifc _ x => T.flat x
  | .agg cs => T.flatL cs
def T.flatL : List T → Bool
  | [] => true
  | x :: xs => T.flat x && T.flatL xs
end
mutual
theorem RepT.flat {w w' : World} {M M' : Nat → Prop} : ∀ (x : T) (u : Value), x.flat = true → RepT w M x u → RepT w' M' x u
  | .v x, u, _, h => h
  | .sl n cs, u, hf, h => by
    obtain ⟨A, c, h1, h2, h3, _⟩ := h
    simp only [T.flat, List.isEmpty_iff] at hf
    exact ⟨A, c, h1, h2, h3, .inl hf⟩
  | .ifc t x, u, hf, h => by
    obtain ⟨y, h1, h2⟩ := h
    exact ⟨y, h1, RepT.flat x y hf h2⟩
  | .agg cs, u, hf, h => by
    obtain ⟨vs, h1, h2⟩ := h
    exact ⟨vs, h1, RepTs.flat cs _ hf h2⟩
theorem RepTs.flat {w w' : World} {M M' : Nat → Prop} : ∀ (xs : List T) (us : List Value), T.flatL xs = true → RepTs w M xs us → RepTs w' M' xs us
  | [], us, _, h => h
  | x :: xs, us, hf, h => by
    simp only [T.flatL, Bool.and_eq_true] at hf
    obtain ⟨u, us', h1, h2, h3, h4⟩ := h
    exact ⟨u, us', h1, h2, RepT.flat x u hf.1 h3, RepTs.flat xs us' hf.2 h4⟩
end
mutual
theorem Rep.ren {w : World} {M M' : Nat → Prop} {η η' : Et} {ρ : Nm → Nm} {b : Bool} (hM : b = true → ∀ c, c < w.heap.size → M' c → M c) : ∀ (d : D) (u : Value), (b = false → d.flat = true) → (∀ m q, d.has m = true → η m = some q → η' (ρ m) = some q) → Rep w M η d u → Rep w M' η' (d.ren ρ) u
  | .t x, u, hf, _, h => by
    cases b with
    | false => exact RepT.flat x u (hf rfl) h
    | true => exact RepT.keeps (fun _ _ _ => rfl) (hM rfl) x u h
  | .bad, _, _, _, _ => trivial
  | .agg cs, u, hf, hη, h => by
    obtain ⟨vs, hx, h1⟩ := h
    exact ⟨vs, hx, Reps.ren hM cs _ hf hη h1⟩
  | .tup cs, u, hf, hη, h => by
    obtain ⟨vs, hx, h1⟩ := h
    exact ⟨vs, hx, RepsA.ren hM cs _ hf hη h1⟩
  | .ifc ty d, u, hf, hη, h => by
    obtain ⟨x, hx, h1⟩ := h
    exact ⟨x, hx, Rep.ren hM d x hf hη h1⟩
  | .ptr m off, u, hf, hη, h => by
    obtain ⟨c, s, h1, h2⟩ := h
    exact ⟨c, s, hη m _ (by simp [D.has]) h1, h2⟩
  | .rop cs, u, hf, hη, h => by
    cases b with
    | false =>
      have hc := hf rfl
      simp only [D.flat, List.isEmpty_iff] at hc
      obtain ⟨a, h1, h2⟩ := h
      exact ⟨a, h1, .inl hc⟩
    | true => exact Rep.keeps (fun _ _ _ => rfl) (hM rfl) (.rop cs) u (by simp [D.has]) h
  | .msl m off n sz, u, hf, hη, h => by
    obtain ⟨A, c, hu, h1, h2, h3⟩ := h
    refine ⟨A, c, hu, h1, h2, ?_⟩
    rcases h3 with h3 | ⟨c, s, h3, h4, h5⟩
    · exact .inl h3
    · exact .inr ⟨c, s, hη m _ (by simp [D.has]) h3, h4, h5⟩
  | .fn f caps, u, hf, hη, h => by
    obtain ⟨vs, hx, h1⟩ := h
    exact ⟨vs, hx, RepsA.ren hM caps _ hf hη h1⟩
theorem Reps.ren {w : World} {M M' : Nat → Prop} {η η' : Et} {ρ : Nm → Nm} {b : Bool} (hM : b = true → ∀ c, c < w.heap.size → M' c → M c) : ∀ (ds : List D) (us : List Value), (b = false → D.flatL ds = true) → (∀ m q, D.hasL m ds = true → η m = some q → η' (ρ m) = some q) → Reps w M η ds us → Reps w M' η' (D.renL ρ ds) us
  | [], us, _, _, h => h
  | d :: ds, us, hf, hη, h => by
    obtain ⟨u, us', hu, h1, h2, h3⟩ := h
    have hf' : b = false → d.flat = true ∧ D.flatL ds = true := fun e => by simpa [D.flatL] using hf e
    exact ⟨u, us', hu, h1, Rep.ren hM d u (fun e => (hf' e).1) (fun m q hm => hη m q (by simp [D.hasL, hm])) h2, Reps.ren hM ds us' (fun e => (hf' e).2) (fun m q hm => hη m q (by simp [D.hasL, hm])) h3⟩
theorem RepsA.ren {w : World} {M M' : Nat → Prop} {η η' : Et} {ρ : Nm → Nm} {b : Bool} (hM : b = true → ∀ c, c < w.heap.size → M' c → M c) : ∀ (ds : List D) (us : List Value), (b = false → D.flatL ds = true) → (∀ m q, D.hasL m ds = true → η m = some q → η' (ρ m) = some q) → RepsA w M η ds us → RepsA w M' η' (D.renL ρ ds) us
  | [], us, _, _, h => h
  | d :: ds, us, hf, hη, h => by
    obtain ⟨u, us', hu, h2, h3⟩ := h
    have hf' : b = false → d.flat = true ∧ D.flatL ds = true := fun e => by simpa [D.flatL] using hf e
    exact ⟨u, us', hu, Rep.ren hM d u (fun e => (hf' e).1) (fun m q hm => hη m q (by simp [D.hasL, hm])) h2, RepsA.ren hM ds us' (fun e => (hf' e).2) (fun m q hm => hη m q (by simp [D.hasL, hm])) h3⟩
end
theorem D.renL_len {ρ : Nm → Nm} : ∀ ds : List D, (D.renL ρ ds).length = ds.length
  | [] => rfl
  | d :: ds => by simp [D.renL, D.renL_len ds]

mutual
theorem VwT.congr {hp hp' : Nm → Option Ob} {len : Nm → Prop} (h : ∀ m, len m → hp' m = hp m) : ∀ (x : T) (d : D), VwT hp len x d → VwT hp' len x d
  | .v x, d, hv => hv
  | .sl n cs, d, hv => by
    rcases hv with hv | ⟨m, off, sz, ob, h1, h2, h3, h4, h5⟩ | hv
    · exact .inl hv
    · exact .inr (.inl ⟨m, off, sz, ob, h1, h2, (h m h2).trans h3, h4, VwTs.congr h cs _ h5⟩)
    · exact .inr (.inr hv)
  | .ifc t x, d, hv => by
    rcases hv with hv | ⟨d', h1, h2⟩
    · exact .inl hv
    · exact .inr ⟨d', h1, VwT.congr h x d' h2⟩
  | .agg cs, d, hv => by
    rcases hv with hv | ⟨ds, h1, h2⟩
    · exact .inl hv
    · exact .inr ⟨ds, h1, VwTs.congr h cs ds h2⟩
theorem VwTs.congr {hp hp' : Nm → Option Ob} {len : Nm → Prop} (h : ∀ m, len m → hp' m = hp m) : ∀ (xs : List T) (ds : List D), VwTs hp len xs ds → VwTs hp' len xs ds
  | [], ds, hv => hv
  | x :: xs, ds, hv => by
    obtain ⟨d, ds', h1, h2, h3⟩ := hv
    exact ⟨d, ds', h1, VwT.congr h x d h2, VwTs.congr h xs ds' h3⟩
end
mutual
theorem Vw.congr {src : Nm → Option Nm} {hp hp' : Nm → Option Ob} {len : Nm → Prop} (h : ∀ m, len m → hp' m = hp m) : ∀ (c d : D), Vw src hp len c d → Vw src hp' len c d
  | .t x, d, hv => VwT.congr h x d hv
  | .bad, d, hv => trivial
  | .agg cs, d, hv => by obtain ⟨ds, h1, h2⟩ := hv; exact ⟨ds, h1, VwL.congr h cs ds h2⟩
  | .tup cs, d, hv => by obtain ⟨ds, h1, h2⟩ := hv; exact ⟨ds, h1, VwL.congr h cs ds h2⟩
  | .ifc ty c, d, hv => by obtain ⟨d', h1, h2⟩ := hv; exact ⟨d', h1, Vw.congr h c d' h2⟩
  | .ptr m off, d, hv => hv
  | .rop cs, d, hv => by
    rcases hv with hv | ⟨m, off, ob, h1, h2, h3, h4⟩
    · exact .inl hv
    · exact .inr ⟨m, off, ob, h1, h2, (h m h2).trans h3, VwTs.congr h cs _ h4⟩
  | .msl m off n sz, d, hv => hv
  | .fn f caps, d, hv => by obtain ⟨ds, h1, h2⟩ := hv; exact ⟨ds, h1, VwL.congr h caps ds h2⟩
theorem VwL.congr {src : Nm → Option Nm} {hp hp' : Nm → Option Ob} {len : Nm → Prop} (h : ∀ m, len m → hp' m = hp m) : ∀ (cs ds : List D), VwL src hp len cs ds → VwL src hp' len cs ds
  | [], ds, hv => hv
  | c :: cs, ds, hv => by
    obtain ⟨d, ds', h1, h2, h3⟩ := hv
    exact ⟨d, ds', h1, Vw.congr h c d h2, VwL.congr h cs ds' h3⟩
end

def srcOf (nms : List Nm) : Nm → Option Nm
  | .p k => nms[k]?
  | _ => none
def renOf (nms : List Nm) (rid i : Nat) : Nm → Nm
  | .p k => nms.getD k (.p k)
  | .n k => .r rid i k
  | m => m
def Ob.ren (ρ : Nm → Nm) (ob : Ob) : Ob := { ob with cells := D.renL ρ ob.cells }
def Ob.frz (ob : Ob) : Ob := { ob with own := false }

theorem has_poi_le {m m' : Nm} {d : D} (h : d.has m = false) : (d.poi m').has m = false := by
  unfold D.poi
  split
  · rfl
  · exact h
theorem hasL_poi_le {m m' : Nm} : ∀ {ds : List D}, D.hasL m ds = false → D.hasL m (ds.map (D.poi m')) = false
  | [], _ => rfl
  | d :: ds, h => by
    simp only [D.hasL, Bool.or_eq_false_iff] at h
    simp [D.hasL, has_poi_le h.1, hasL_poi_le h.2]
theorem poiL_sim {Γ : Gl} {E : Env} {a : Act} {w : World} {η : Et} : ∀ (ms : List Nm) {X : St}, Sim Γ E X a w η → Sim Γ E (X.poiL ms) a w η
  | [], X, h => h
  | m :: ms, X, h => poiL_sim ms (h.poi m)
theorem poiL_sl_le {m : Nm} : ∀ (ms : List Nm) {X : St}, D.hasL m X.sl = false → D.hasL m (X.poiL ms).sl = false
  | [], X, h => h
  | m' :: ms, X, h => poiL_sl_le ms (X := X.poi m') (hasL_poi_le h)
theorem poiL_sl {m : Nm} : ∀ (ms : List Nm) {X : St}, m ∈ ms → D.hasL m (X.poiL ms).sl = false
  | m' :: ms, X, h => by
    rcases List.mem_cons.1 h with rfl | h
    · exact poiL_sl_le ms (X := X.poi m) (D.hasL_poi m _)
    · exact poiL_sl ms h
theorem poiL_ob : ∀ (ms : List Nm) {X : St} {m' : Nm} {ob : Ob}, (X.poiL ms).hp m' = some ob → ∃ ob0, X.hp m' = some ob0 ∧ ob.ty = ob0.ty ∧ ob.row = ob0.row ∧ ob.own = ob0.own ∧ (∀ m, D.hasL m ob0.cells = false → D.hasL m ob.cells = false) ∧ ∀ m ∈ ms, D.hasL m ob.cells = false
  | [], X, m', ob, h => ⟨ob, h, rfl, rfl, rfl, fun _ h => h, fun _ h => by cases h⟩
  | m1 :: ms, X, m', ob, h => by
    obtain ⟨ob1, h1, h2, h3, h4, h5, h6⟩ := poiL_ob ms (X := X.poi m1) h
    simp only [St.poi, Option.map_eq_some_iff] at h1
    obtain ⟨ob0, h7, rfl⟩ := h1
    refine ⟨ob0, h7, h2, h3, h4, fun m hm => h5 m (hasL_poi_le hm), fun m hm => ?_⟩
    rcases List.mem_cons.1 hm with rfl | hm
    · exact h5 m (D.hasL_poi m _)
    · exact h6 m hm
theorem poiL_none : ∀ (ms : List Nm) {X : St} {m' : Nm}, (X.poiL ms).hp m' = none ↔ X.hp m' = none
  | [], X, m' => Iff.rfl
  | m1 :: ms, X, m' => by
    rw [show X.poiL (m1 :: ms) = (X.poi m1).poiL ms from rfl, poiL_none ms]
    simp [St.poi]
theorem Mut_poiL {η : Et} {b : Nat} : ∀ (ms : List Nm) {X : St}, Mut (X.poiL ms).hp η b ↔ Mut X.hp η b
  | [], X => Iff.rfl
  | m :: ms, X => by
    rw [show X.poiL (m :: ms) = (X.poi m).poiL ms from rfl, Mut_poiL ms]
    exact Mut_poi m b

def callOk (P : Program) (f : FuncId) : Bool := match P.funcs[f]? with | some fn => (fn.name != "runtime.NumGoroutine") && fn.body.isSome | none => false

theorem run_call {P : Program} {f : FuncId} (h : callOk P f = true) (args : Array Value) (w : World) : (callFunc f args).run P w = .ok (.enter f args) w := by
  unfold callOk at h
  split at h
  · rename_i fn hf
    simp only [Bool.and_eq_true, bne_iff_ne, ne_eq] at h
    have h2 : fn.body.isNone = false := by cases e : fn.body <;> simp_all
    simp [callFunc, hf, h.1, h2]
    intro h'
    rw [h'] at h2
    cases h2
  · cases h
end Go.Ot
