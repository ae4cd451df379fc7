/- The abstract values and states by which this claim's functions are described, and what a world says of them. -/
import Derived.Laws.AppendOwn
import Derived.Laws.OwnMore
import Derived.Laws.MakeOwn
import Derived.Below
import Derived.Orders
set_option linter.unusedVariables false
set_option linter.unusedSimpArgs false
namespace Go.Ot

/-- Names of the objects that a frame may change. -/
inductive Nm where
  | p (k : Nat)
  | n (k : Nat)
  | r (rid i k : Nat)
  deriving DecidableEq

/-- A name that a frame was handed. -/
def Nm.isP : Nm → Bool
  | .p _ => true
  | _ => false
/-- The type of elements of which a row may be handed on as a variable that keeps its place (a number of this program's types; any number serves). -/
def looseT : TypeId := 60

/-- Data that nobody changes. -/
inductive T where
  | v (x : Value)
  | sl (n : Nat) (cs : List T)
  | ifc (t : TypeId) (d : T)
  | agg (cs : List T)

/-- What a slot, or a cell of an object, has. -/
inductive D where
  | t (x : T)
  | bad
  | agg (cs : List D)
  | tup (cs : List D)
  | ifc (ty : TypeId) (d : D)
  | ptr (m : Nm) (off : Nat)
  | rop (cs : List T)
  | msl (m : Nm) (off n sz : Nat)
  | fn (f : FuncId) (caps : List D)

/-- An object: a variable in memory, or a row; one that is not own is changed by nobody any more. -/
structure Ob where
  cells : List D
  ty : TypeId
  row : Bool
  own : Bool

/-- A row seen as a row; or as a variable that keeps its place. -/
@[simp] def rowOk (m : Nm) (ob' ob : Ob) : Prop := ob'.row = ob.row ∨ (ob'.row = false ∧ ob.ty = looseT ∧ ob'.cells ≠ [] ∧ m.isP = false)
theorem rowOk.eq {m : Nm} {ob' ob : Ob} (h : ob'.row = ob.row) : rowOk m ob' ob := .inl h

/-- Where a name's block is, and how many cells it has. -/
abbrev Et := Nm → Option (Nat × Nat)

mutual
def RepT (w : World) (M : Nat → Prop) : T → Value → Prop
  | .v x, u => u = x
  | .sl n cs, u => ∃ A c, u = .slice A n c ∧ n ≤ c ∧ c ≤ maxLen ∧ (cs = [] ∨ ∃ a, A = some a ∧ ¬ M a.block ∧ RepTAt w M a 0 cs)
  | .ifc t d, u => ∃ x, u = .iface t x ∧ RepT w M d x
  | .agg cs, u => ∃ vs, u = .agg vs ∧ RepTs w M cs vs.toList
def RepTs (w : World) (M : Nat → Prop) : List T → List Value → Prop
  | [], us => us = []
  | d :: ds, us => ∃ u us', us = u :: us' ∧ u.oneCell' = true ∧ RepT w M d u ∧ RepTs w M ds us'
def RepTAt (w : World) (M : Nat → Prop) (a : Addr) : Nat → List T → Prop
  | _, [] => True
  | j, d :: ds => (∃ u, w.cell? (a.add j) = some u ∧ u.oneCell' = true ∧ RepT w M d u) ∧ RepTAt w M a (j + 1) ds
end

mutual
def Rep (w : World) (M : Nat → Prop) (η : Et) : D → Value → Prop
  | .t x, u => RepT w M x u
  | .bad, _ => True
  | .agg cs, u => ∃ vs, u = .agg vs ∧ Reps w M η cs vs.toList
  | .tup cs, u => ∃ vs, u = .tuple vs ∧ RepsA w M η cs vs.toList
  | .ifc ty d, u => ∃ x, u = .iface ty x ∧ Rep w M η d x
  | .ptr m off, u => ∃ b s, η m = some (b, s) ∧ u = .pointer (some ⟨b, off, none⟩)
  | .rop cs, u => ∃ a, u = .pointer (some a) ∧ (cs = [] ∨ ¬ M a.block ∧ RepTAt w M a 0 cs)
  | .msl m off n sz, u => ∃ A c, u = .slice A n c ∧ n ≤ c ∧ c ≤ maxLen ∧ (c = 0 ∨ ∃ b s, η m = some (b, s) ∧ A = some ⟨b, off, none⟩ ∧ off + c * sz = s)
  | .fn f caps, u => ∃ vs, u = .func (.func f) #[] vs ∧ RepsA w M η caps vs.toList
/-- Cells: each has one. -/
def Reps (w : World) (M : Nat → Prop) (η : Et) : List D → List Value → Prop
  | [], us => us = []
  | d :: ds, us => ∃ u us', us = u :: us' ∧ u.oneCell' = true ∧ Rep w M η d u ∧ Reps w M η ds us'
/-- Values, of whatever size. -/
def RepsA (w : World) (M : Nat → Prop) (η : Et) : List D → List Value → Prop
  | [], us => us = []
  | d :: ds, us => ∃ u us', us = u :: us' ∧ Rep w M η d u ∧ RepsA w M η ds us'
end

mutual
/-- Is a name in it? -/
def D.has (m : Nm) : D → Bool
  | .t _ => false
  | .bad => false
  | .agg cs => D.hasL m cs
  | .tup cs => D.hasL m cs
  | .ifc _ d => D.has m d
  | .ptr m' _ => m == m'
  | .rop _ => false
  | .msl m' _ _ _ => m == m'
  | .fn _ caps => D.hasL m caps
def D.hasL (m : Nm) : List D → Bool
  | [] => false
  | d :: ds => D.has m d || D.hasL m ds
end

/-- What was there, and is none of a changer's, is as it was. -/
def Keeps (w w' : World) (M : Nat → Prop) : Prop := ∀ b, b < w.heap.size → ¬ M b → w'.heap[b]? = w.heap[b]?

theorem add_block (a : Addr) (j : Nat) : (a.add j).block = a.block := by unfold Addr.add; split <;> rfl

theorem cell_keeps {w w' : World} {M : Nat → Prop} (hk : Keeps w w' M) {a : Addr} (hM : ¬ M a.block) {u : Value} (h : w.cell? a = some u) : w'.cell? a = some u :=
  (World.cell?_of_block (hk a.block (World.block_lt_of_cell? w a h) hM)).trans h

theorem RepTAt.lt {w : World} {M : Nat → Prop} {a : Addr} {j : Nat} {d : T} {ds : List T} (h : RepTAt w M a j (d :: ds)) : a.block < w.heap.size := by
  obtain ⟨⟨u, hu, _⟩, _⟩ := h
  have := World.block_lt_of_cell? w _ hu
  rwa [add_block] at this

mutual
theorem RepT.keeps {w w' : World} {M M' : Nat → Prop} (hk : Keeps w w' M) (hM : ∀ b, b < w.heap.size → M' b → M b) : ∀ (d : T) (u : Value), RepT w M d u → RepT w' M' d u
  | .v x, u, h => h
  | .sl n cs, u, h => by
    obtain ⟨A, c, hu, h1, h2, h3⟩ := h
    refine ⟨A, c, hu, h1, h2, ?_⟩
    rcases h3 with h3 | ⟨a, ha, hna, h3⟩
    · exact .inl h3
    · cases cs with
      | nil => exact .inl rfl
      | cons d ds => exact .inr ⟨a, ha, fun hm => hna (hM _ h3.lt hm), RepTAt.keeps hk hM a hna 0 (d :: ds) h3⟩
  | .ifc t d, u, h => by
    obtain ⟨x, hx, h1⟩ := h
    exact ⟨x, hx, RepT.keeps hk hM d x h1⟩
  | .agg cs, u, h => by
    obtain ⟨vs, hx, h1⟩ := h
    exact ⟨vs, hx, RepTs.keeps hk hM cs _ h1⟩
theorem RepTs.keeps {w w' : World} {M M' : Nat → Prop} (hk : Keeps w w' M) (hM : ∀ b, b < w.heap.size → M' b → M b) : ∀ (ds : List T) (us : List Value), RepTs w M ds us → RepTs w' M' ds us
  | [], us, h => h
  | d :: ds, us, h => by
    obtain ⟨u, us', hu, h1, h2, h3⟩ := h
    exact ⟨u, us', hu, h1, RepT.keeps hk hM d u h2, RepTs.keeps hk hM ds us' h3⟩
theorem RepTAt.keeps {w w' : World} {M M' : Nat → Prop} (hk : Keeps w w' M) (hM : ∀ b, b < w.heap.size → M' b → M b) (a : Addr) (hna : ¬ M a.block) : ∀ (j : Nat) (ds : List T), RepTAt w M a j ds → RepTAt w' M' a j ds
  | _, [], _ => trivial
  | j, d :: ds, h => by
    obtain ⟨⟨u, hu, h1, h2⟩, h3⟩ := h
    exact ⟨⟨u, cell_keeps hk (by rwa [add_block]) hu, h1, RepT.keeps hk hM d u h2⟩, RepTAt.keeps hk hM a hna (j + 1) ds h3⟩
end

mutual
theorem Rep.keeps {w w' : World} {M M' : Nat → Prop} {η η' : Et} (hk : Keeps w w' M) (hM : ∀ b, b < w.heap.size → M' b → M b) :
    ∀ (d : D) (u : Value), (∀ m q, d.has m = true → η m = some q → η' m = some q) → Rep w M η d u → Rep w' M' η' d u
  | .t x, u, _, h => RepT.keeps hk hM x u h
  | .bad, _, _, _ => trivial
  | .agg cs, u, hη, h => by
    obtain ⟨vs, hx, h1⟩ := h
    exact ⟨vs, hx, Reps.keeps hk hM cs _ hη h1⟩
  | .tup cs, u, hη, h => by
    obtain ⟨vs, hx, h1⟩ := h
    exact ⟨vs, hx, RepsA.keeps hk hM cs _ hη h1⟩
  | .ifc ty d, u, hη, h => by
    obtain ⟨x, hx, h1⟩ := h
    exact ⟨x, hx, Rep.keeps hk hM d x hη h1⟩
  | .ptr m off, u, hη, h => by
    obtain ⟨b, s, h1, h2⟩ := h
    exact ⟨b, s, hη m _ (by simp [D.has]) h1, h2⟩
  | .rop cs, u, _, h => by
    obtain ⟨a, ha, h1⟩ := h
    refine ⟨a, ha, ?_⟩
    rcases h1 with h1 | ⟨h1, h2⟩
    · exact .inl h1
    · cases cs with
      | nil => exact .inl rfl
      | cons d ds => exact .inr ⟨fun hm => h1 (hM _ h2.lt hm), RepTAt.keeps hk hM a h1 0 _ h2⟩
  | .msl m off n sz, u, hη, h => by
    obtain ⟨A, c, hu, h1, h2, h3⟩ := h
    refine ⟨A, c, hu, h1, h2, ?_⟩
    rcases h3 with h3 | ⟨b, s, h3, h4, h5⟩
    · exact .inl h3
    · exact .inr ⟨b, s, hη m _ (by simp [D.has]) h3, h4, h5⟩
  | .fn f caps, u, hη, h => by
    obtain ⟨vs, hx, h1⟩ := h
    exact ⟨vs, hx, RepsA.keeps hk hM caps _ hη h1⟩
theorem Reps.keeps {w w' : World} {M M' : Nat → Prop} {η η' : Et} (hk : Keeps w w' M) (hM : ∀ b, b < w.heap.size → M' b → M b) :
    ∀ (ds : List D) (us : List Value), (∀ m q, D.hasL m ds = true → η m = some q → η' m = some q) → Reps w M η ds us → Reps w' M' η' ds us
  | [], us, _, h => h
  | d :: ds, us, hη, h => by
    obtain ⟨u, us', hu, h1, h2, h3⟩ := h
    exact ⟨u, us', hu, h1, Rep.keeps hk hM d u (fun m q hm => hη m q (by simp [D.hasL, hm])) h2, Reps.keeps hk hM ds us' (fun m q hm => hη m q (by simp [D.hasL, hm])) h3⟩
theorem RepsA.keeps {w w' : World} {M M' : Nat → Prop} {η η' : Et} (hk : Keeps w w' M) (hM : ∀ b, b < w.heap.size → M' b → M b) :
    ∀ (ds : List D) (us : List Value), (∀ m q, D.hasL m ds = true → η m = some q → η' m = some q) → RepsA w M η ds us → RepsA w' M' η' ds us
  | [], us, _, h => h
  | d :: ds, us, hη, h => by
    obtain ⟨u, us', hu, h2, h3⟩ := h
    exact ⟨u, us', hu, Rep.keeps hk hM d u (fun m q hm => hη m q (by simp [D.hasL, hm])) h2, RepsA.keeps hk hM ds us' (fun m q hm => hη m q (by simp [D.hasL, hm])) h3⟩
end

/-! ### lists -/
theorem Reps.length {w : World} {M : Nat → Prop} {η : Et} : ∀ {ds : List D} {us : List Value}, Reps w M η ds us → us.length = ds.length
  | [], us, h => by have h : us = [] := h; simp [h]
  | d :: ds, us, h => by
    obtain ⟨u, us', rfl, _, _, h3⟩ := h
    simp [Reps.length h3]
theorem RepsA.length {w : World} {M : Nat → Prop} {η : Et} : ∀ {ds : List D} {us : List Value}, RepsA w M η ds us → us.length = ds.length
  | [], us, h => by have h : us = [] := h; simp [h]
  | d :: ds, us, h => by
    obtain ⟨u, us', rfl, _, h3⟩ := h
    simp [RepsA.length h3]
theorem RepsA.get {w : World} {M : Nat → Prop} {η : Et} : ∀ {ds : List D} {us : List Value}, RepsA w M η ds us → ∀ {j : Nat} {d : D}, ds[j]? = some d → ∃ u, us[j]? = some u ∧ Rep w M η d u
  | [], us, h, j, d, hd => by simp at hd
  | d :: ds, us, h, j, e, hd => by
    obtain ⟨u, us', rfl, h2, h3⟩ := h
    cases j with
    | zero => simp at hd; subst hd; exact ⟨u, by simp, h2⟩
    | succ j => simpa using RepsA.get h3 (j := j) (by simpa using hd)
theorem Reps.get {w : World} {M : Nat → Prop} {η : Et} : ∀ {ds : List D} {us : List Value}, Reps w M η ds us → ∀ {j : Nat} {d : D}, ds[j]? = some d → ∃ u, us[j]? = some u ∧ u.oneCell' = true ∧ Rep w M η d u
  | [], us, h, j, d, hd => by simp at hd
  | d :: ds, us, h, j, e, hd => by
    obtain ⟨u, us', rfl, h1, h2, h3⟩ := h
    cases j with
    | zero => simp at hd; subst hd; exact ⟨u, by simp, h1, h2⟩
    | succ j => simpa using Reps.get h3 (j := j) (by simpa using hd)
theorem Reps.of_get {w : World} {M : Nat → Prop} {η : Et} : ∀ {ds : List D} {us : List Value}, us.length = ds.length → (∀ (j : Nat) (d : D), ds[j]? = some d → ∃ u, us[j]? = some u ∧ u.oneCell' = true ∧ Rep w M η d u) → Reps w M η ds us
  | [], us, hl, h => List.eq_nil_of_length_eq_zero (by simpa using hl)
  | d :: ds, [], hl, h => by simp at hl
  | d :: ds, u :: us, hl, h => by
    obtain ⟨u', hu, h1, h2⟩ := h 0 d (by simp)
    simp at hu
    subst hu
    exact ⟨u, us, rfl, h1, h2, Reps.of_get (by simpa using hl) (fun j e he => by simpa using h (j + 1) e (by simpa using he))⟩
theorem RepsA.of_get {w : World} {M : Nat → Prop} {η : Et} : ∀ {ds : List D} {us : List Value}, us.length = ds.length → (∀ (j : Nat) (d : D), ds[j]? = some d → ∃ u, us[j]? = some u ∧ Rep w M η d u) → RepsA w M η ds us
  | [], us, hl, h => List.eq_nil_of_length_eq_zero (by simpa using hl)
  | d :: ds, [], hl, h => by simp at hl
  | d :: ds, u :: us, hl, h => by
    obtain ⟨u', hu, h2⟩ := h 0 d (by simp)
    simp at hu
    subst hu
    exact ⟨u, us, rfl, h2, RepsA.of_get (by simpa using hl) (fun j e he => by simpa using h (j + 1) e (by simpa using he))⟩
theorem RepsA.set {w : World} {M : Nat → Prop} {η : Et} : ∀ {ds : List D} {us : List Value}, RepsA w M η ds us → ∀ (j : Nat) {d : D} {u : Value}, Rep w M η d u → RepsA w M η (ds.set j d) (us.set j u)
  | [], us, h, j, d, u, _ => by have h : us = [] := h; subst h; simp [RepsA]
  | e :: ds, us, h, j, d, u, hd => by
    obtain ⟨x, us', rfl, h2, h3⟩ := h
    cases j with
    | zero => exact ⟨u, us', by simp, hd, h3⟩
    | succ j => exact ⟨x, us'.set j u, by simp, h2, RepsA.set h3 j hd⟩
theorem Reps.set {w : World} {M : Nat → Prop} {η : Et} : ∀ {ds : List D} {us : List Value}, Reps w M η ds us → ∀ (j : Nat) {d : D} {u : Value}, u.oneCell' = true → Rep w M η d u → Reps w M η (ds.set j d) (us.set j u)
  | [], us, h, j, d, u, _, _ => by have h : us = [] := h; subst h; simp [Reps]
  | e :: ds, us, h, j, d, u, h1, hd => by
    obtain ⟨x, us', rfl, hx, h2, h3⟩ := h
    cases j with
    | zero => exact ⟨u, us', by simp, h1, hd, h3⟩
    | succ j => exact ⟨x, us'.set j u, by simp, hx, h2, Reps.set h3 j h1 hd⟩
theorem Reps.append {w : World} {M : Nat → Prop} {η : Et} : ∀ {ds es : List D} {us vs : List Value}, Reps w M η ds us → Reps w M η es vs → Reps w M η (ds ++ es) (us ++ vs)
  | [], es, us, vs, h, k => by have h : us = [] := h; subst h; simpa using k
  | d :: ds, es, us, vs, h, k => by
    obtain ⟨u, us', rfl, h1, h2, h3⟩ := h
    exact ⟨u, us' ++ vs, rfl, h1, h2, Reps.append h3 k⟩
theorem Reps.drop {w : World} {M : Nat → Prop} {η : Et} {ds : List D} {us : List Value} (h : Reps w M η ds us) (k : Nat) : Reps w M η (ds.drop k) (us.drop k) :=
  Reps.of_get (by simp [h.length]) (fun j d hd => by rw [List.getElem?_drop] at hd ⊢; exact h.get hd)
theorem Reps.take {w : World} {M : Nat → Prop} {η : Et} {ds : List D} {us : List Value} (h : Reps w M η ds us) (k : Nat) : Reps w M η (ds.take k) (us.take k) :=
  Reps.of_get (by simp [h.length]) (fun j d hd => by
    rw [List.getElem?_take] at hd ⊢
    split at hd
    · rename_i hj; rw [if_pos hj]; exact h.get hd
    · cases hd)
theorem Reps.any {w : World} {M : Nat → Prop} {η : Et} : ∀ {ds : List D} {us : List Value}, Reps w M η ds us → RepsA w M η ds us
  | [], us, h => h
  | d :: ds, us, h => by
    obtain ⟨u, us', hu, _, h2, h3⟩ := h
    exact ⟨u, us', hu, h2, Reps.any h3⟩
theorem RepTAt.get {w : World} {M : Nat → Prop} {a : Addr} : ∀ {ds : List T} {j : Nat}, RepTAt w M a j ds → ∀ {i : Nat} {d : T}, ds[i]? = some d → ∃ u, w.cell? (a.add (j + i)) = some u ∧ u.oneCell' = true ∧ RepT w M d u
  | [], j, _, i, d, hd => by simp at hd
  | e :: ds, j, h, i, d, hd => by
    obtain ⟨h1, h2⟩ := h
    cases i with
    | zero => simp at hd; subst hd; simpa using h1
    | succ i =>
      have := RepTAt.get h2 (i := i) (by simpa using hd)
      rwa [show j + 1 + i = j + (i + 1) from by omega] at this
theorem RepTAt.of_get {w : World} {M : Nat → Prop} {a : Addr} : ∀ {ds : List T} {j : Nat}, (∀ (i : Nat) (d : T), ds[i]? = some d → ∃ u, w.cell? (a.add (j + i)) = some u ∧ u.oneCell' = true ∧ RepT w M d u) → RepTAt w M a j ds
  | [], j, _ => trivial
  | e :: ds, j, h => ⟨by simpa using h 0 e (by simp), RepTAt.of_get (fun i d hd => by
      have := h (i + 1) d (by simpa using hd)
      rwa [show j + (i + 1) = j + 1 + i from by omega] at this)⟩
theorem RepTs.get {w : World} {M : Nat → Prop} : ∀ {ds : List T} {us : List Value}, RepTs w M ds us → ∀ {j : Nat} {d : T}, ds[j]? = some d → ∃ u, us[j]? = some u ∧ u.oneCell' = true ∧ RepT w M d u
  | [], us, h, j, d, hd => by simp at hd
  | d :: ds, us, h, j, e, hd => by
    obtain ⟨u, us', rfl, h1, h2, h3⟩ := h
    cases j with
    | zero => simp at hd; subst hd; exact ⟨u, by simp, h1, h2⟩
    | succ j => simpa using RepTs.get h3 (j := j) (by simpa using hd)
theorem RepTs.length {w : World} {M : Nat → Prop} : ∀ {ds : List T} {us : List Value}, RepTs w M ds us → us.length = ds.length
  | [], us, h => by have h : us = [] := h; simp [h]
  | d :: ds, us, h => by
    obtain ⟨u, us', rfl, _, _, h3⟩ := h
    simp [RepTs.length h3]
theorem RepTs.of_get {w : World} {M : Nat → Prop} : ∀ {ds : List T} {us : List Value}, us.length = ds.length → (∀ (j : Nat) (d : T), ds[j]? = some d → ∃ u, us[j]? = some u ∧ u.oneCell' = true ∧ RepT w M d u) → RepTs w M ds us
  | [], us, hl, h => List.eq_nil_of_length_eq_zero (by simpa using hl)
  | d :: ds, [], hl, h => by simp at hl
  | d :: ds, u :: us, hl, h => by
    obtain ⟨u', hu, h1, h2⟩ := h 0 d (by simp)
    simp at hu
    subst hu
    exact ⟨u, us, rfl, h1, h2, RepTs.of_get (by simpa using hl) (fun j e he => by simpa using h (j + 1) e (by simpa using he))⟩
/-- Trees as cells. -/
theorem Reps_T {w : World} {M : Nat → Prop} {η : Et} {cs : List T} {us : List Value} : Reps w M η (cs.map .t) us ↔ RepTs w M cs us := by
  constructor
  · intro h
    exact RepTs.of_get (by simpa using h.length) (fun j d hd => h.get (d := .t d) (by simp [hd]))
  · intro h
    exact Reps.of_get (by simpa using h.length) (fun j d hd => by
      simp only [List.getElem?_map, Option.map_eq_some_iff] at hd
      obtain ⟨x, hx, rfl⟩ := hd
      exact h.get hx)
end Go.Ot
