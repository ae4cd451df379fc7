/- The abstract values and states by which this claim's functions are described, and what a world says of them. -/
import Derived.Laws.AppendOwn
import Derived.Laws.OwnMore
import Derived.Laws.MakeOwn
import Derived.Below
import Derived.Orders
import Derived.Laws.CopyOwn
import Derived.Laws.Entries
import Derived.Laws.Slices
import Derived.Laws.Strings
import Derived.Laws.Small
import Derived.Lib.ConvBytes
import Derived.Lib.AppendStr
import Derived.Laws.BytesArg
set_option linter.unusedVariables false
set_option linter.unusedSimpArgs false
namespace Go.Ot
theorem zB : (∀ {p : Prop} {h : Decidable p}, (@decide p h = true) = p) ∧ (∀ {p : Prop} {h : Decidable p}, (@decide p h = false) = ¬ p) ∧ (∀ (a b : Bool), ((a && b) = true) = (a = true ∧ b = true)) ∧ (∀ (a b : Bool), ((a || b) = true) = (a = true ∨ b = true)) ∧ (∀ (a b : Bool), ((a || b) = false) ↔ (a = false ∧ b = false)) ∧ (∀ (b : Bool), ((!b) = true) = (b = false)) ∧ (∀ (b : Bool), ((!b) = false) = (b = true)) ∧ (∀ {x y : Bool}, ((x && y) = false) ↔ (x = true → y = false)) ∧ (∀ {α : Type} [BEq α] [LawfulBEq α] {a b : α}, ((a == b) = true) ↔ a = b) ∧ (∀ {α : Type} [BEq α] [LawfulBEq α] {a b : α}, ((a == b) = false) ↔ a ≠ b) ∧ (∀ {α : Type} (a b : α), (a ≠ b) = ¬ a = b) :=
  ⟨fun {p h} => propext ⟨fun e => of_decide_eq_true e, fun e => decide_eq_true e⟩, fun {p h} => propext ⟨fun e => of_decide_eq_false e, fun e => decide_eq_false e⟩, by simp, by simp, by simp, by simp, by simp, by simp, beq_iff_eq, beq_eq_false_iff_ne, fun _ _ => rfl⟩
theorem zL : (∀ {α : Type} (i : Nat) (l : List α), (List.drop i l).length = l.length - i) ∧ (∀ {α : Type} (i : Nat) (l : List α), (List.take i l).length = min i l.length) ∧ (∀ {α β : Type} (l : List α) (f : α → β), (l.map f).length = l.length) ∧ (∀ {α : Type} (l m : List α), (l ++ m).length = l.length + m.length) ∧ (∀ {α : Type} (a : α) (l : List α), (a :: l).length = l.length + 1) ∧ (∀ {α : Type}, ([] : List α).length = 0) ∧ (∀ {α : Type} (n : Nat) (a : α), (List.replicate n a).length = n) ∧ (∀ {α : Type} (l : List α) (i : Nat) (a : α), (l.set i a).length = l.length) :=
  ⟨by simp, by simp, by simp, by simp, by simp, by simp, by simp, by simp⟩
inductive Nm where
  | p (k : Nat)
  | n (k : Nat)
  | r (rid i k : Nat)
  deriving DecidableEq
def Nm.isP : Nm → Bool
  | .p _ => true
  | _ => false
def looseT : TypeId := 219
inductive T where
  | v (x : Value)
  | sl (n : Nat) (cs : List T)
  | ifc (t : TypeId) (d : T)
  | agg (cs : List T)
inductive D where
  | t (x : T)
  | bad
  | agg (cs : List D)
  | tup (cs : List D)
  | ifc (ty : TypeId) (d : D)
  | ptr (m : Nm) (off : Nat)
  | rop (cs : List T)
  | msl (m : Nm) (off n sz : Nat)
  | fn (f : FuncId) (caps : List D)
structure Ob where
  cells : List D
  ty : TypeId
  row : Bool
  own : Bool
@[simp] def rowOk (m : Nm) (ob' ob : Ob) : Prop := ob'.row = ob.row ∨ (ob'.row = false ∧ ob.ty = looseT ∧ ob'.cells ≠ [] ∧ m.isP = false)
abbrev Et := Nm → Option (Nat × Nat)
mutual
def RepT (w : World) (M : Nat → Prop) : T → Value → Prop
  | .v x, u => u = x
  | .sl n cs, u => ∃ A c, u = .slice A n c ∧ n ≤ c ∧ c ≤ maxLen ∧ (cs = [] ∨ ∃ a, A = some a ∧ ¬ M a.block ∧ RepTAt w M a 0 cs)
  | .ifc t d, u => ∃ x, u = .iface t x ∧ RepT w M d x
  | .agg cs, u => ∃ vs, u = .agg vs ∧ RepTs w M cs vs.toList
def RepTs (w : World) (M : Nat → Prop) : List T → List Value → Prop
  | [], us => us = []
  | d :: ds, us => ∃ u us', us = u :: us' ∧ u.oneCell' = true ∧ RepT w M d u ∧ RepTs w M ds us'
def RepTAt (w : World) (M : Nat → Prop) (a : Addr) : Nat → List T → Prop
  | _, [] => True
  | j, d :: ds => (∃ u, w.cell? (a.add j) = some u ∧ u.oneCell' = true ∧ RepT w M d u) ∧ RepTAt w M a (j + 1) ds
end
mutual
def Rep (w : World) (M : Nat → Prop) (η : Et) : D → Value → Prop
  | .t x, u => RepT w M x u
  | .bad, _ => True
  | .agg cs, u => ∃ vs, u = .agg vs ∧ Reps w M η cs vs.toList
  | .tup cs, u => ∃ vs, u = .tuple vs ∧ RepsA w M η cs vs.toList
  | .ifc ty d, u => ∃ x, u = .iface ty x ∧ Rep w M η d x
  | .ptr m off, u => ∃ b s, η m = some (b, s) ∧ u = .pointer (some ⟨b, off, none⟩)
  | .rop cs, u => ∃ a, u = .pointer (some a) ∧ (cs = [] ∨ ¬ M a.block ∧ RepTAt w M a 0 cs)
  | .msl m off n sz, u => ∃ A c, u = .slice A n c ∧ n ≤ c ∧ c ≤ maxLen ∧ (c = 0 ∨ ∃ b s, η m = some (b, s) ∧ A = some ⟨b, off, none⟩ ∧ off + c * sz = s)
  | .fn f caps, u => ∃ vs, u = .func (.func f) #[] vs ∧ RepsA w M η caps vs.toList
def Reps (w : World) (M : Nat → Prop) (η : Et) : List D → List Value → Prop
  | [], us => us = []
  | d :: ds, us => ∃ u us', us = u :: us' ∧ u.oneCell' = true ∧ Rep w M η d u ∧ Reps w M η ds us'
def RepsA (w : World) (M : Nat → Prop) (η : Et) : List D → List Value → Prop
  | [], us => us = []
  | d :: ds, us => ∃ u us', us = u :: us' ∧ Rep w M η d u ∧ RepsA w M η ds us'
end
mutual
def D.has (m : Nm) : D → Bool
  | .t _ => false
  | .bad => false
  | .agg cs => D.hasL m cs
  | .tup cs => D.hasL m cs
  | .ifc _ d => D.has m d
  | .ptr m' _ => m == m'
  | .rop _ => false
  | .msl m' _ _ _ => m == m'
  | .fn _ caps => D.hasL m caps
def D.hasL (m : Nm) : List D → Bool
  | [] => false
  | d :: ds => D.has m d || D.hasL m ds
end
def lC (w w' : World) (M : Nat → Prop) : Prop := ∀ b, b < w.heap.size → ¬ M b → w'.heap[b]? = w.heap[b]?
theorem add_block (a : Addr) (j : Nat) : (a.add j).block = a.block := by unfold Addr.add; split <;> rfl
theorem yCW {w w' : World} {M : Nat → Prop} (hk : lC w w' M) {a : Addr} (hM : ¬ M a.block) {u : Value} (h : w.cell? a = some u) : w'.cell? a = some u :=
  (World.cell?_of_block (hk a.block (World.block_lt_of_cell? w a h) hM)).trans h
theorem RepTAt.lt {w : World} {M : Nat → Prop} {a : Addr} {j : Nat} {d : T} {ds : List T} (h : RepTAt w M a j (d :: ds)) : a.block < w.heap.size := by
  obtain ⟨⟨u, hu, _⟩, _⟩ := h
  have := World.block_lt_of_cell? w _ hu
  rwa [add_block] at this
mutual
theorem RepT.keeps {w w' : World} {M M' : Nat → Prop} (hk : lC w w' M) (hM : ∀ b, b < w.heap.size → M' b → M b) : ∀ (d : T) (u : Value), RepT w M d u → RepT w' M' d u
  | .v x, u, h => h
  | .sl n cs, u, h => by
    obtain ⟨A, c, hu, h1, h2, h3⟩ := h
    refine ⟨A, c, hu, h1, h2, ?_⟩
    rcases h3 with h3 | ⟨a, ha, hna, h3⟩
    · exact .inl h3
    · cases cs with
      | nil => exact .inl rfl
      | cons d ds => exact .inr ⟨a, ha, fun hm => hna (hM _ h3.lt hm), RepTAt.keeps hk hM a hna 0 (d :: ds) h3⟩
  | .ifc t d, u, h => by
    obtain ⟨x, hx, h1⟩ := h
    exact ⟨x, hx, RepT.keeps hk hM d x h1⟩
  | .agg cs, u, h => by
    obtain ⟨vs, hx, h1⟩ := h
    exact ⟨vs, hx, RepTs.keeps hk hM cs _ h1⟩
theorem RepTs.keeps {w w' : World} {M M' : Nat → Prop} (hk : lC w w' M) (hM : ∀ b, b < w.heap.size → M' b → M b) : ∀ (ds : List T) (us : List Value), RepTs w M ds us → RepTs w' M' ds us
  | [], us, h => h
  | d :: ds, us, h => by
    obtain ⟨u, us', hu, h1, h2, h3⟩ := h
    exact ⟨u, us', hu, h1, RepT.keeps hk hM d u h2, RepTs.keeps hk hM ds us' h3⟩
theorem RepTAt.keeps {w w' : World} {M M' : Nat → Prop} (hk : lC w w' M) (hM : ∀ b, b < w.heap.size → M' b → M b) (a : Addr) (hna : ¬ M a.block) : ∀ (j : Nat) (ds : List T), RepTAt w M a j ds → RepTAt w' M' a j ds
  | _, [], _ => trivial
  | j, d :: ds, h => by
    obtain ⟨⟨u, hu, h1, h2⟩, h3⟩ := h
    exact ⟨⟨u, yCW hk (by rwa [add_block]) hu, h1, RepT.keeps hk hM d u h2⟩, RepTAt.keeps hk hM a hna (j + 1) ds h3⟩
end
mutual
theorem Rep.keeps {w w' : World} {M M' : Nat → Prop} {η η' : Et} (hk : lC w w' M) (hM : ∀ b, b < w.heap.size → M' b → M b) :
    ∀ (d : D) (u : Value), (∀ m q, d.has m = true → η m = some q → η' m = some q) → Rep w M η d u → Rep w' M' η' d u
  | .t x, u, _, h => RepT.keeps hk hM x u h
  | .bad, _, _, _ => trivial
  | .agg cs, u, hη, h => by
    obtain ⟨vs, hx, h1⟩ := h
    exact ⟨vs, hx, Reps.keeps hk hM cs _ hη h1⟩
  | .tup cs, u, hη, h => by
    obtain ⟨vs, hx, h1⟩ := h
    exact ⟨vs, hx, RepsA.keeps hk hM cs _ hη h1⟩
  | .ifc ty d, u, hη, h => by
    obtain ⟨x, hx, h1⟩ := h
    exact ⟨x, hx, Rep.keeps hk hM d x hη h1⟩
  | .ptr m off, u, hη, h => by
    obtain ⟨b, s, h1, h2⟩ := h
    exact ⟨b, s, hη m _ (by simp [D.has]) h1, h2⟩
  | .rop cs, u, _, h => by
    obtain ⟨a, ha, h1⟩ := h
    refine ⟨a, ha, ?_⟩
    rcases h1 with h1 | ⟨h1, h2⟩
    · exact .inl h1
    · cases cs with
      | nil => exact .inl rfl
      | cons d ds => exact .inr ⟨fun hm => h1 (hM _ h2.lt hm), RepTAt.keeps hk hM a h1 0 _ h2⟩
  | .msl m off n sz, u, hη, h => by
    obtain ⟨A, c, hu, h1, h2, h3⟩ := h
    refine ⟨A, c, hu, h1, h2, ?_⟩
    rcases h3 with h3 | ⟨b, s, h3, h4, h5⟩
    · exact .inl h3
    · exact .inr ⟨b, s, hη m _ (by simp [D.has]) h3, h4, h5⟩
  | .fn f caps, u, hη, h => by
    obtain ⟨vs, hx, h1⟩ := h
    exact ⟨vs, hx, RepsA.keeps hk hM caps _ hη h1⟩
theorem Reps.keeps {w w' : World} {M M' : Nat → Prop} {η η' : Et} (hk : lC w w' M) (hM : ∀ b, b < w.heap.size → M' b → M b) :
    ∀ (ds : List D) (us : List Value), (∀ m q, D.hasL m ds = true → η m = some q → η' m = some q) → Reps w M η ds us → Reps w' M' η' ds us
  | [], us, _, h => h
  | d :: ds, us, hη, h => by
    obtain ⟨u, us', hu, h1, h2, h3⟩ := h
    exact ⟨u, us', hu, h1, Rep.keeps hk hM d u (fun m q hm => hη m q (by simp [D.hasL, hm])) h2, Reps.keeps hk hM ds us' (fun m q hm => hη m q (by simp [D.hasL, hm])) h3⟩
theorem RepsA.keeps {w w' : World} {M M' : Nat → Prop} {η η' : Et} (hk : lC w w' M) (hM : ∀ b, b < w.heap.size → M' b → M b) :
    ∀ (ds : List D) (us : List Value), (∀ m q, D.hasL m ds = true → η m = some q → η' m = some q) → RepsA w M η ds us → RepsA w' M' η' ds us
  | [], us, _, h => h
  | d :: ds, us, hη, h => by
    obtain ⟨u, us', hu, h2, h3⟩ := h
    exact ⟨u, us', hu, Rep.keeps hk hM d u (fun m q hm => hη m q (by simp [D.hasL, hm])) h2, RepsA.keeps hk hM ds us' (fun m q hm => hη m q (by simp [D.hasL, hm])) h3⟩
end
theorem Reps.length {w : World} {M : Nat → Prop} {η : Et} : ∀ {ds : List D} {us : List Value}, Reps w M η ds us → us.length = ds.length
  | [], us, h => by have h : us = [] := h; simp [h]
  | d :: ds, us, h => by
    obtain ⟨u, us', rfl, _, _, h3⟩ := h
    simp [Reps.length h3]
theorem RepsA.length {w : World} {M : Nat → Prop} {η : Et} : ∀ {ds : List D} {us : List Value}, RepsA w M η ds us → us.length = ds.length
  | [], us, h => by have h : us = [] := h; simp [h]
  | d :: ds, us, h => by
    obtain ⟨u, us', rfl, _, h3⟩ := h
    simp [RepsA.length h3]
theorem RepsA.get {w : World} {M : Nat → Prop} {η : Et} : ∀ {ds : List D} {us : List Value}, RepsA w M η ds us → ∀ {j : Nat} {d : D}, ds[j]? = some d → ∃ u, us[j]? = some u ∧ Rep w M η d u
  | [], us, h, j, d, hd => by simp at hd
  | d :: ds, us, h, j, e, hd => by
    obtain ⟨u, us', rfl, h2, h3⟩ := h
    cases j with
    | zero => simp at hd; subst hd; exact ⟨u, by simp, h2⟩
    | succ j => simpa using RepsA.get h3 (j := j) (by simpa using hd)
theorem Reps.get {w : World} {M : Nat → Prop} {η : Et} : ∀ {ds : List D} {us : List Value}, Reps w M η ds us → ∀ {j : Nat} {d : D}, ds[j]? = some d → ∃ u, us[j]? = some u ∧ u.oneCell' = true ∧ Rep w M η d u
  | [], us, h, j, d, hd => by simp at hd
  | d :: ds, us, h, j, e, hd => by
    obtain ⟨u, us', rfl, h1, h2, h3⟩ := h
    cases j with
    | zero => simp at hd; subst hd; exact ⟨u, by simp, h1, h2⟩
    | succ j => simpa using Reps.get h3 (j := j) (by simpa using hd)
theorem Reps.of_get {w : World} {M : Nat → Prop} {η : Et} : ∀ {ds : List D} {us : List Value}, us.length = ds.length → (∀ (j : Nat) (d : D), ds[j]? = some d → ∃ u, us[j]? = some u ∧ u.oneCell' = true ∧ Rep w M η d u) → Reps w M η ds us
  | [], us, hl, h => List.eq_nil_of_length_eq_zero (by simpa using hl)
  | d :: ds, [], hl, h => by simp at hl
  | d :: ds, u :: us, hl, h => by
    obtain ⟨u', hu, h1, h2⟩ := h 0 d (by simp)
    simp at hu
    subst hu
    exact ⟨u, us, rfl, h1, h2, Reps.of_get (by simpa using hl) (fun j e he => by simpa using h (j + 1) e (by simpa using he))⟩
theorem RepsA.of_get {w : World} {M : Nat → Prop} {η : Et} : ∀ {ds : List D} {us : List Value}, us.length = ds.length → (∀ (j : Nat) (d : D), ds[j]? = some d → ∃ u, us[j]? = some u ∧ Rep w M η d u) → RepsA w M η ds us
  | [], us, hl, h => List.eq_nil_of_length_eq_zero (by simpa using hl)
  | d :: ds, [], hl, h => by simp at hl
  | d :: ds, u :: us, hl, h => by
    obtain ⟨u', hu, h2⟩ := h 0 d (by simp)
    simp at hu
    subst hu
    exact ⟨u, us, rfl, h2, RepsA.of_get (by simpa using hl) (fun j e he => by simpa using h (j + 1) e (by simpa using he))⟩
theorem RepsA.set {w : World} {M : Nat → Prop} {η : Et} : ∀ {ds : List D} {us : List Value}, RepsA w M η ds us → ∀ (j : Nat) {d : D} {u : Value}, Rep w M η d u → RepsA w M η (ds.set j d) (us.set j u)
  | [], us, h, j, d, u, _ => by have h : us = [] := h; subst h; simp [RepsA]
  | e :: ds, us, h, j, d, u, hd => by
    obtain ⟨x, us', rfl, h2, h3⟩ := h
    cases j with
    | zero => exact ⟨u, us', by simp, hd, h3⟩
    | succ j => exact ⟨x, us'.set j u, by simp, h2, RepsA.set h3 j hd⟩
theorem Reps.set {w : World} {M : Nat → Prop} {η : Et} : ∀ {ds : List D} {us : List Value}, Reps w M η ds us → ∀ (j : Nat) {d : D} {u : Value}, u.oneCell' = true → Rep w M η d u → Reps w M η (ds.set j d) (us.set j u)
  | [], us, h, j, d, u, _, _ => by have h : us = [] := h; subst h; simp [Reps]
  | e :: ds, us, h, j, d, u, h1, hd => by
    obtain ⟨x, us', rfl, hx, h2, h3⟩ := h
    cases j with
    | zero => exact ⟨u, us', by simp, h1, hd, h3⟩
    | succ j => exact ⟨x, us'.set j u, by simp, hx, h2, Reps.set h3 j h1 hd⟩
theorem Reps.append {w : World} {M : Nat → Prop} {η : Et} : ∀ {ds es : List D} {us vs : List Value}, Reps w M η ds us → Reps w M η es vs → Reps w M η (ds ++ es) (us ++ vs)
  | [], es, us, vs, h, k => by have h : us = [] := h; subst h; simpa using k
  | d :: ds, es, us, vs, h, k => by
    obtain ⟨u, us', rfl, h1, h2, h3⟩ := h
    exact ⟨u, us' ++ vs, rfl, h1, h2, Reps.append h3 k⟩
theorem Reps.drop {w : World} {M : Nat → Prop} {η : Et} {ds : List D} {us : List Value} (h : Reps w M η ds us) (k : Nat) : Reps w M η (ds.drop k) (us.drop k) :=
  Reps.of_get (by simp [h.length]) (fun j d hd => by rw [List.getElem?_drop] at hd ⊢; exact h.get hd)
theorem Reps.take {w : World} {M : Nat → Prop} {η : Et} {ds : List D} {us : List Value} (h : Reps w M η ds us) (k : Nat) : Reps w M η (ds.take k) (us.take k) :=
  Reps.of_get (by simp [h.length]) (fun j d hd => by
    rw [List.getElem?_take] at hd ⊢
    split at hd
    · rename_i hj; rw [if_pos hj]; exact h.get hd
    · cases hd)
theorem Reps.any {w : World} {M : Nat → Prop} {η : Et} : ∀ {ds : List D} {us : List Value}, Reps w M η ds us → RepsA w M η ds us
  | [], us, h => h
  | d :: ds, us, h => by
    obtain ⟨u, us', hu, _, h2, h3⟩ := h
    exact ⟨u, us', hu, h2, Reps.any h3⟩
theorem RepTAt.get {w : World} {M : Nat → Prop} {a : Addr} : ∀ {ds : List T} {j : Nat}, RepTAt w M a j ds → ∀ {i : Nat} {d : T}, ds[i]? = some d → ∃ u, w.cell? (a.add (j + i)) = some u ∧ u.oneCell' = true ∧ RepT w M d u
  | [], j, _, i, d, hd => by simp at hd
  | e :: ds, j, h, i, d, hd => by
    obtain ⟨h1, h2⟩ := h
    cases i with
    | zero => simp at hd; subst hd; simpa using h1
    | succ i =>
      have := RepTAt.get h2 (i := i) (by simpa using hd)
      rwa [show j + 1 + i = j + (i + 1) from by omega] at this
theorem RepTAt.of_get {w : World} {M : Nat → Prop} {a : Addr} : ∀ {ds : List T} {j : Nat}, (∀ (i : Nat) (d : T), ds[i]? = some d → ∃ u, w.cell? (a.add (j + i)) = some u ∧ u.oneCell' = true ∧ RepT w M d u) → RepTAt w M a j ds
  | [], j, _ => trivial
  | e :: ds, j, h => ⟨by simpa using h 0 e (by simp), RepTAt.of_get (fun i d hd => by
      have := h (i + 1) d (by simpa using hd)
      rwa [show j + (i + 1) = j + 1 + i from by omega] at this)⟩
theorem RepTs.get {w : World} {M : Nat → Prop} : ∀ {ds : List T} {us : List Value}, RepTs w M ds us → ∀ {j : Nat} {d : T}, ds[j]? = some d → ∃ u, us[j]? = some u ∧ u.oneCell' = true ∧ RepT w M d u
  | [], us, h, j, d, hd => by simp at hd
  | d :: ds, us, h, j, e, hd => by
    obtain ⟨u, us', rfl, h1, h2, h3⟩ := h
    cases j with
    | zero => simp at hd; subst hd; exact ⟨u, by simp, h1, h2⟩
    | succ j => simpa using RepTs.get h3 (j := j) (by simpa using hd)
theorem RepTs.length {w : World} {M : Nat → Prop} : ∀ {ds : List T} {us : List Value}, RepTs w M ds us → us.length = ds.length
  | [], us, h => by have h : us = [] := h; simp [h]
  | d :: ds, us, h => by
    obtain ⟨u, us', rfl, _, _, h3⟩ := h
    simp [RepTs.length h3]
theorem RepTs.of_get {w : World} {M : Nat → Prop} : ∀ {ds : List T} {us : List Value}, us.length = ds.length → (∀ (j : Nat) (d : T), ds[j]? = some d → ∃ u, us[j]? = some u ∧ u.oneCell' = true ∧ RepT w M d u) → RepTs w M ds us
  | [], us, hl, h => List.eq_nil_of_length_eq_zero (by simpa using hl)
  | d :: ds, [], hl, h => by simp at hl
  | d :: ds, u :: us, hl, h => by
    obtain ⟨u', hu, h1, h2⟩ := h 0 d (by simp)
    simp at hu
    subst hu
    exact ⟨u, us, rfl, h1, h2, RepTs.of_get (by simpa using hl) (fun j e he => by simpa using h (j + 1) e (by simpa using he))⟩
theorem Reps_T {w : World} {M : Nat → Prop} {η : Et} {cs : List T} {us : List Value} : Reps w M η (cs.map .t) us ↔ RepTs w M cs us := by
  constructor
  · intro h
    exact RepTs.of_get (by simpa using h.length) (fun j d hd => h.get (d := .t d) (by simp [hd]))
  · intro h
    exact Reps.of_get (by simpa using h.length) (fun j d hd => by
      simp only [List.getElem?_map, Option.map_eq_some_iff] at hd
      obtain ⟨x, hx, rfl⟩ := hd
      exact h.get hx)
end Go.Ot

namespace Go.Ot
structure St where
  sl : List D
  hp : Nm → Option Ob
def upd (h : Nm → Option Ob) (m : Nm) (o : Option Ob) : Nm → Option Ob := fun m' => if m' = m then o else h m'
@[simp] theorem upd_same (h : Nm → Option Ob) (m : Nm) (o : Option Ob) : upd h m o m = o := by simp [upd]
theorem upd_ne {h : Nm → Option Ob} {m m' : Nm} {o : Option Ob} (hne : m' ≠ m) : upd h m o m' = h m' := by simp [upd, hne]
def fH (η : Et) (m : Nm) (q : Option (Nat × Nat)) : Et := fun m' => if m' = m then q else η m'
@[simp] theorem cR (η : Et) (m : Nm) (q : Option (Nat × Nat)) : fH η m q m = q := by simp [fH]
theorem vF {η : Et} {m m' : Nm} {q : Option (Nat × Nat)} (hne : m' ≠ m) : fH η m q m' = η m' := by simp [fH, hne]
def Mut (hp : Nm → Option Ob) (η : Et) (b : Nat) : Prop := ∃ m ob s, hp m = some ob ∧ ob.own = true ∧ η m = some (b, s)
def Mx (hp : Nm → Option Ob) (η : Et) (A : Nat → Prop) (b : Nat) : Prop := Mut hp η b ∨ A b
def ObRep (w : World) (M : Nat → Prop) (η : Et) (m : Nm) (ob : Ob) : Prop :=
  match η m with
  | none => ob.row = true ∧ ob.cells = []
  | some (b, s) => ∃ cur fr, w.heap[b]? = some (.cells cur ob.ty fr) ∧ (∀ j, j < cur.size → ¬ (fr.1 ≤ j ∧ j < fr.2)) ∧ cur.size = s ∧ ob.cells.length ≤ s ∧ (ob.row = false → ob.ty ≠ looseT → ob.cells.length = s) ∧ Reps w M η ob.cells (cur.toList.take ob.cells.length)
structure HpOk (w : World) (A : Nat → Prop) (hp : Nm → Option Ob) (η : Et) : Prop where
  objs : ∀ m ob, hp m = some ob → ObRep w (Mx hp η A) η m ob
  dom : ∀ m q, η m = some q → hp m ≠ none
  inj : ∀ m m' b s s', η m = some (b, s) → η m' = some (b, s') → m = m'
  noA : ∀ m b s, η m = some (b, s) → ¬ A b
structure Env where
  w0 : World
  M0 : Nat → Prop
  A : Nat → Prop
  η0 : Et
structure Gl where
  G : World → Prop
  gs : Nat
  st : ∀ w w' : World, (∀ b, b < gs → w'.heap[b]? = w.heap[b]?) → G w → G w'
structure Sim (Γ : Gl) (E : Env) (X : St) (a : Act) (w : World) (η : Et) : Prop where
  slots : RepsA w (Mx X.hp η E.A) η X.sl a.tmps.toList
  ok : HpOk w E.A X.hp η
  defers : a.defers = []
  size : E.w0.heap.size ≤ w.heap.size
  keep : ∀ b, b < E.w0.heap.size → ¬ E.M0 b → w.heap[b]? = E.w0.heap[b]?
  mine : ∀ m ob b s, X.hp m = some ob → ob.own = true → η m = some (b, s) → E.M0 b ∨ E.w0.heap.size ≤ b
  mine2 : ∀ m b s, η m = some (b, s) → (∃ m0 s0, E.η0 m0 = some (b, s0)) ∨ E.w0.heap.size ≤ b
  pin : ∀ m ob q, X.hp m = some ob → ob.row = false → E.η0 m = some q → η m = some q
  low : ∀ b, E.A b → b < E.w0.heap.size
  os : w.os = E.w0.os
  tape : w.tape = E.w0.tape
  output : w.output = E.w0.output
  par : ∀ m q, E.η0 m = some q → ∃ k, m = .p k
  glob : Γ.G E.w0
  gle : Γ.gs ≤ E.w0.heap.size
  gM : ∀ b, E.M0 b → Γ.gs ≤ b
theorem ObRep.lt {w : World} {M : Nat → Prop} {η : Et} {m : Nm} {ob : Ob} (h : ObRep w M η m ob) {b s : Nat} (hm : η m = some (b, s)) : b < w.heap.size := by
  simp only [ObRep, hm] at h
  obtain ⟨cur, fr, hc, _⟩ := h
  exact (Array.getElem?_eq_some_iff.1 hc).1
theorem HpOk.lt {w : World} {A : Nat → Prop} {hp : Nm → Option Ob} {η : Et} (h : HpOk w A hp η) {m : Nm} {b s : Nat} (hm : η m = some (b, s)) : b < w.heap.size := by
  cases ho : hp m with
  | none => exact absurd ho (h.dom m _ hm)
  | some ob => exact (h.objs m ob ho).lt hm
theorem ObRep.keeps {w w' : World} {M M' : Nat → Prop} {η η' : Et} {m : Nm} {ob : Ob} (hk : lC w w' M) (hM : ∀ b, b < w.heap.size → M' b → M b)
    (hb : ∀ b s, η m = some (b, s) → w'.heap[b]? = w.heap[b]?) (hm : η' m = η m) (hη : ∀ m' q, D.hasL m' ob.cells = true → η m' = some q → η' m' = some q) (h : ObRep w M η m ob) : ObRep w' M' η' m ob := by
  unfold ObRep at *
  rw [hm]
  split
  · rename_i e; simpa [e] using h
  · rename_i b s e
    simp only [e] at h
    obtain ⟨cur, fr, h1, h1', h2, h3, h4, h5⟩ := h
    exact ⟨cur, fr, (hb b s e).trans h1, h1', h2, h3, h4, Reps.keeps hk hM _ _ hη h5⟩
theorem Sim.put {Γ : Gl} {E : Env} {X : St} {a : Act} {w : World} {η : Et} (h : Sim Γ E X a w η) {d : D} {u : Value} (hd : Rep w (Mx X.hp η E.A) η d u) (s : Option Nat) :
    Sim Γ E { X with sl := match s with | some s => X.sl.set s d | none => X.sl } (a.put s u) w η := by
  cases s with
  | none => exact h
  | some s => exact { h with slots := by simpa [Act.put, Array.toList_setIfInBounds] using h.slots.set s hd, defers := h.defers }
theorem Sim.world {Γ : Gl} {E : Env} {X : St} {a : Act} {w : World} {η : Et} (h : Sim Γ E X a w η) {w' : World} (hh : w'.heap = w.heap) (h1 : w'.os = w.os) (h2 : w'.tape = w.tape) (h3 : w'.output = w.output) : Sim Γ E X a w' η := by
  have hk : ∀ M, lC w w' M := fun M b _ _ => by rw [hh]
  exact {
    slots := RepsA.keeps (hk _) (fun _ _ h => h) _ _ (fun _ _ _ h => h) h.slots
    ok := ⟨fun m ob hm => (h.ok.objs m ob hm).keeps (hk _) (fun _ _ h => h) (fun _ _ _ => by rw [hh]) rfl (fun _ _ _ h => h), h.ok.dom, h.ok.inj, h.ok.noA⟩
    defers := h.defers
    size := by rw [hh]; exact h.size
    keep := fun b hb hM => by rw [hh]; exact h.keep b hb hM
    mine := h.mine
    mine2 := h.mine2
    pin := h.pin
    low := h.low
    os := h1.trans h.os
    tape := h2.trans h.tape
    output := h3.trans h.output
    par := h.par
    glob := h.glob
    gle := h.gle
    gM := h.gM }
theorem Sim.new {Γ : Gl} {E : Env} {X : St} {a : Act} {w : World} {η : Et} (h : Sim Γ E X a w η) {m : Nm} (hm : X.hp m = none) (he : E.η0 m = none) (ob : Ob) (cur : Array Value) (fr : Nat × Nat) (hfr : ∀ j, j < cur.size → ¬ (fr.1 ≤ j ∧ j < fr.2)) (ho : ob.own = true)
    (hl : ob.cells.length ≤ cur.size) (hb : ob.row = false → ob.cells.length = cur.size) (hc : Reps w (Mx X.hp η E.A) η ob.cells (cur.toList.take ob.cells.length)) :
    Sim Γ E { X with hp := upd X.hp m (some ob) } a (w.alloc (.cells cur ob.ty fr)) (fH η m (some (w.heap.size, cur.size))) := by
  have hk : lC w (w.alloc (.cells cur ob.ty fr)) (Mx X.hp η E.A) := fun b hb _ => heap_alloc_old w _ b hb
  have hηm : η m = none := by
    cases e : η m with
    | none => rfl
    | some q => exact absurd hm (h.ok.dom m q e)
  have hη : ∀ m' q, η m' = some q → fH η m (some (w.heap.size, cur.size)) m' = some q := fun m' q hq => by
    rw [vF]
    · exact hq
    · rintro rfl; rw [hηm] at hq; cases hq
  have hM : ∀ b, b < w.heap.size → Mx (upd X.hp m (some ob)) (fH η m (some (w.heap.size, cur.size))) E.A b → Mx X.hp η E.A b := by
    rintro b hb (⟨m', ob', s, h1, h2, h3⟩ | h1)
    · by_cases e : m' = m
      · subst e
        simp at h3
        omega
      · rw [upd_ne e] at h1
        rw [vF e] at h3
        exact .inl ⟨m', ob', s, h1, h2, h3⟩
    · exact .inr h1
  have hA : ∀ b, E.A b → b < w.heap.size := fun b hb => Nat.lt_of_lt_of_le (h.low b hb) h.size
  refine { slots := RepsA.keeps hk hM _ _ (fun m' q _ => hη m' q) h.slots, ok := ⟨?_, ?_, ?_, ?_⟩, defers := h.defers, size := ?_, keep := ?_, mine := ?_, mine2 := ?_, pin := ?_, low := h.low, os := h.os, tape := h.tape, output := h.output, par := h.par, glob := h.glob, gle := h.gle, gM := h.gM }
  · intro m' ob' hm'
    by_cases e : m' = m
    · subst e
      simp at hm'
      subst hm'
      simp only [ObRep, cR]
      exact ⟨cur, fr, heap_alloc_new w _, hfr, rfl, hl, (fun h _ => hb h), Reps.keeps hk hM _ _ (fun m' q _ => hη m' q) hc⟩
    · have hm'' : X.hp m' = some ob' := by simpa [upd_ne e] using hm'
      exact (h.ok.objs m' ob' hm'').keeps hk hM (fun b s hb => heap_alloc_old w _ b (h.ok.lt hb)) (vF e) (fun m' q _ => hη m' q)
  · intro m' q hq
    by_cases e : m' = m
    · subst e; simp
    · rw [vF e] at hq
      simpa [upd_ne e] using h.ok.dom m' q hq
  · intro m1 m2 b s s' h1 h2
    by_cases e1 : m1 = m <;> by_cases e2 : m2 = m
    · rw [e1, e2]
    · subst e1
      rw [vF e2] at h2
      simp at h1
      have := h.ok.lt h2
      omega
    · subst e2
      rw [vF e1] at h1
      simp at h2
      have := h.ok.lt h1
      omega
    · rw [vF e1] at h1
      rw [vF e2] at h2
      exact h.ok.inj m1 m2 b s s' h1 h2
  · intro m' b s hq hAb
    by_cases e : m' = m
    · subst e
      simp at hq
      have := hA b hAb
      omega
    · rw [vF e] at hq
      exact h.ok.noA m' b s hq hAb
  · simp; have := h.size; omega
  · intro b hb hM0
    rw [heap_alloc_old w _ b (Nat.lt_of_lt_of_le hb h.size)]
    exact h.keep b hb hM0
  · intro m' ob' b s h1 h2 h3
    by_cases e : m' = m
    · subst e
      simp at h3
      exact .inr (by have := h.size; omega)
    · rw [vF e] at h3
      exact h.mine m' ob' b s (by simpa [upd_ne e] using h1) h2 h3
  · intro m' b s h3
    by_cases e : m' = m
    · subst e
      simp at h3
      exact .inr (by have := h.size; omega)
    · rw [vF e] at h3
      exact h.mine2 m' b s h3
  · intro m' ob' q h1 h2 h3
    by_cases e : m' = m
    · subst e
      rw [he] at h3
      cases h3
    · rw [vF e]
      exact h.pin m' ob' q (by simpa [upd_ne e] using h1) h2 h3
theorem Sim.write {Γ : Gl} {E : Env} {X : St} {a : Act} {w : World} {η : Et} (h : Sim Γ E X a w η) {m : Nm} {ob : Ob} (hm : X.hp m = some ob) (ho : ob.own = true) {b s : Nat} (hη : η m = some (b, s)) (cs : List D) (cur : Array Value)
    (hs : cur.size = s) (hl : cs.length ≤ s) (hb : ob.row = false → ob.ty ≠ looseT → cs.length = s) (hc : Reps w (Mx X.hp η E.A) η cs (cur.toList.take cs.length)) :
    Sim Γ E { X with hp := upd X.hp m (some { ob with cells := cs }) } a (w.setRow b cur) η := by
  have hMut : Mut X.hp η b := ⟨m, ob, s, hm, ho, hη⟩
  have hk : lC w (w.setRow b cur) (Mx X.hp η E.A) := fun b' hb' hM => setRow_other w b b' cur (fun e => hM (e ▸ .inl hMut))
  have hM : ∀ b', b' < w.heap.size → Mx (upd X.hp m (some { ob with cells := cs })) η E.A b' → Mx X.hp η E.A b' := by
    rintro b' hb' (⟨m', ob', s', h1, h2, h3⟩ | h1)
    · by_cases e : m' = m
      · subst e
        exact .inl ⟨m', ob, s', hm, ho, h3⟩
      · rw [upd_ne e] at h1
        exact .inl ⟨m', ob', s', h1, h2, h3⟩
    · exact .inr h1
  obtain ⟨old, fr, hold, hfr, hos⟩ : ∃ old fr, w.heap[b]? = some (.cells old ob.ty fr) ∧ (∀ j, j < old.size → ¬ (fr.1 ≤ j ∧ j < fr.2)) ∧ old.size = s := by
    have := h.ok.objs m ob hm
    simp only [ObRep, hη] at this
    obtain ⟨cur, fr, h1, h2, h3, _⟩ := this
    exact ⟨cur, fr, h1, h2, h3⟩
  refine { slots := RepsA.keeps hk hM _ _ (fun _ _ _ h => h) h.slots, ok := ⟨?_, ?_, h.ok.inj, h.ok.noA⟩, defers := h.defers, size := by simpa using h.size, keep := ?_, mine := ?_, mine2 := h.mine2, pin := ?_, low := h.low, os := h.os, tape := h.tape, output := h.output, par := h.par, glob := h.glob, gle := h.gle, gM := h.gM }
  · intro m' ob' hm'
    by_cases e : m' = m
    · subst e
      simp at hm'
      subst hm'
      simp only [ObRep, hη]
      exact ⟨cur, fr, setRow_heap w b old cur _ _ hold, (by rw [hs, ← hos]; exact hfr), hs, hl, hb, Reps.keeps hk hM _ _ (fun _ _ _ h => h) hc⟩
    · have hm'' : X.hp m' = some ob' := by simpa [upd_ne e] using hm'
      refine (h.ok.objs m' ob' hm'').keeps hk hM (fun b' s' hb' => setRow_other w b b' cur ?_) rfl (fun _ _ _ h => h)
      rintro rfl
      exact e (h.ok.inj m' m _ _ _ hb' hη)
  · intro m' q hq
    by_cases e : m' = m
    · subst e; simp
    · simpa [upd_ne e] using h.ok.dom m' q hq
  · intro b' hb' hM0
    by_cases e : b' = b
    · subst e
      rcases h.mine m ob b' s hm ho hη with h1 | h1
      · exact absurd h1 hM0
      · omega
    · rw [setRow_other w b b' cur e]
      exact h.keep b' hb' hM0
  · intro m' ob' b' s' h1 h2 h3
    by_cases e : m' = m
    · subst e
      exact h.mine m' ob b' s' hm ho h3
    · exact h.mine m' ob' b' s' (by simpa [upd_ne e] using h1) h2 h3
  · intro m' ob' q h1 h2 h3
    by_cases e : m' = m
    · subst e
      simp at h1
      subst h1
      exact h.pin m' ob q hm h2 h3
    · exact h.pin m' ob' q (by simpa [upd_ne e] using h1) h2 h3
def D.poi (m : Nm) (d : D) : D := if d.has m then .bad else d
def Ob.poi (m : Nm) (ob : Ob) : Ob := { ob with cells := ob.cells.map (D.poi m) }
def St.poi (m : Nm) (X : St) : St := { sl := X.sl.map (D.poi m), hp := fun m' => (X.hp m').map (Ob.poi m) }
theorem D.has_poi (m : Nm) (d : D) : (d.poi m).has m = false := by
  unfold D.poi
  split
  · rfl
  · rename_i h; simpa using h
theorem D.hasL_poi (m : Nm) : ∀ ds : List D, D.hasL m (ds.map (D.poi m)) = false
  | [] => rfl
  | d :: ds => by simp [D.hasL, D.has_poi, D.hasL_poi m ds]
theorem Rep.poi {w : World} {M : Nat → Prop} {η : Et} {d : D} {u : Value} (h : Rep w M η d u) (m : Nm) : Rep w M η (d.poi m) u := by
  unfold D.poi
  split
  · trivial
  · exact h
theorem RepsA.poi {w : World} {M : Nat → Prop} {η : Et} (m : Nm) : ∀ {ds : List D} {us : List Value}, RepsA w M η ds us → RepsA w M η (ds.map (D.poi m)) us
  | [], us, h => h
  | d :: ds, us, h => by
    obtain ⟨u, us', hu, h2, h3⟩ := h
    exact ⟨u, us', hu, h2.poi m, RepsA.poi m h3⟩
theorem Reps.poi {w : World} {M : Nat → Prop} {η : Et} (m : Nm) : ∀ {ds : List D} {us : List Value}, Reps w M η ds us → Reps w M η (ds.map (D.poi m)) us
  | [], us, h => h
  | d :: ds, us, h => by
    obtain ⟨u, us', hu, h1, h2, h3⟩ := h
    exact ⟨u, us', hu, h1, h2.poi m, Reps.poi m h3⟩
theorem yFc {hp : Nm → Option Ob} {η : Et} (m : Nm) (b : Nat) : Mut (fun m' => (hp m').map (Ob.poi m)) η b ↔ Mut hp η b := by
  constructor
  · rintro ⟨m', ob, s, h1, h2, h3⟩
    simp only [Option.map_eq_some_iff] at h1
    obtain ⟨ob', h1, rfl⟩ := h1
    exact ⟨m', ob', s, h1, h2, h3⟩
  · rintro ⟨m', ob, s, h1, h2, h3⟩
    exact ⟨m', ob.poi m, s, by simp [h1], h2, h3⟩
theorem yFb {hp : Nm → Option Ob} {η : Et} {A : Nat → Prop} (m : Nm) : Mx (fun m' => (hp m').map (Ob.poi m)) η A = Mx hp η A := by
  funext b
  simp [Mx, yFc]
theorem Sim.poi {Γ : Gl} {E : Env} {X : St} {a : Act} {w : World} {η : Et} (h : Sim Γ E X a w η) (m : Nm) : Sim Γ E (X.poi m) a w η := by
  refine { slots := ?_, ok := ⟨?_, ?_, h.ok.inj, h.ok.noA⟩, defers := h.defers, size := h.size, keep := h.keep, mine := ?_, mine2 := h.mine2, pin := ?_, low := h.low, os := h.os, tape := h.tape, output := h.output, par := h.par, glob := h.glob, gle := h.gle, gM := h.gM }
  · simp only [St.poi, yFb]
    exact h.slots.poi m
  · intro m' ob hm'
    simp only [St.poi, Option.map_eq_some_iff] at hm'
    obtain ⟨ob', h1, rfl⟩ := hm'
    have := h.ok.objs m' ob' h1
    simp only [St.poi, yFb]
    unfold ObRep at *
    split
    · rename_i e
      simp only [e] at this
      exact ⟨this.1, by simp [Ob.poi, this.2]⟩
    · rename_i b s e
      simp only [e] at this
      obtain ⟨cur, fr, h2, h2', h3, h4, h5, h6⟩ := this
      exact ⟨cur, fr, h2, h2', h3, by simpa [Ob.poi] using h4, by simpa [Ob.poi] using h5, by simpa [Ob.poi] using h6.poi m⟩
  · intro m' q hq
    simpa [St.poi] using h.ok.dom m' q hq
  · intro m' ob b s h1 h2 h3
    simp only [St.poi, Option.map_eq_some_iff] at h1
    obtain ⟨ob', h1, rfl⟩ := h1
    exact h.mine m' ob' b s h1 h2 h3
  · intro m' ob q h1 h2 h3
    simp only [St.poi, Option.map_eq_some_iff] at h1
    obtain ⟨ob', h1, rfl⟩ := h1
    exact h.pin m' ob' q h1 h2 h3
theorem Sim.grow {Γ : Gl} {E : Env} {X : St} {a : Act} {w : World} {η : Et} (h : Sim Γ E X a w η) {m : Nm} {ob : Ob} (hm : X.hp m = some ob) (ho : ob.own = true) (hr : ob.row = true) {w' : World} {row : Option Nat}
    (hns : D.hasL m X.sl = false) (hno : ∀ m' ob', m' ≠ m → X.hp m' = some ob' → D.hasL m ob'.cells = false)
    (hg : w.grownBy w' row) (hrow : ∀ k, row = some k → ∃ s, η m = some (k, s)) (cs : List D) (hnc : D.hasL m cs = false) (cur : Array Value) (fr : Nat × Nat) (b : Nat) (hb : row = some b ∨ w.heap.size ≤ b) (hh : w'.heap[b]? = some (.cells cur ob.ty fr)) (hfr : ∀ j, j < cur.size → ¬ (fr.1 ≤ j ∧ j < fr.2))
    (hl : cs.length ≤ cur.size) (hc : Reps w (Mx X.hp η E.A) η cs (cur.toList.take cs.length)) :
    Sim Γ E { X with hp := upd X.hp m (some { ob with cells := cs }) } a w' (fH η m (some (b, cur.size))) := by
  have hk : lC w w' (Mx X.hp η E.A) := fun b' hb' hM => hg.block b' hb' (fun e => by
    obtain ⟨s, hs⟩ := hrow b' e.symm
    exact hM (.inl ⟨m, ob, s, hm, ho, hs⟩))
  have hη : ∀ m' q, m' ≠ m → η m' = some q → fH η m (some (b, cur.size)) m' = some q := fun m' q hne hq => by rw [vF hne]; exact hq
  have hηD : ∀ ds, D.hasL m ds = false → ∀ m' q, D.hasL m' ds = true → η m' = some q → fH η m (some (b, cur.size)) m' = some q := fun ds hd m' q h1 h2 => hη m' q (by rintro rfl; rw [hd] at h1; cases h1) h2
  have hbm : ∀ k, row = some k → ∃ s, η m = some (k, s) := hrow
  have hA : ∀ b', E.A b' → b' < w.heap.size := fun b hb => Nat.lt_of_lt_of_le (h.low b hb) h.size
  have hM : ∀ b', b' < w.heap.size → Mx (upd X.hp m (some { ob with cells := cs })) (fH η m (some (b, cur.size))) E.A b' → Mx X.hp η E.A b' := by
    rintro b' hb' (⟨m', ob', s', h1, h2, h3⟩ | h1)
    · by_cases e : m' = m
      · subst e
        simp at h3
        rcases hb with hb | hb
        · obtain ⟨s, hs⟩ := hrow b hb
          exact .inl ⟨m', ob, s, hm, ho, by rw [← h3.1]; exact hs⟩
        · omega
      · rw [upd_ne e] at h1
        rw [vF e] at h3
        exact .inl ⟨m', ob', s', h1, h2, h3⟩
    · exact .inr h1
  refine { slots := RepsA.keeps hk hM _ _ (hηD _ hns) h.slots, ok := ⟨?_, ?_, ?_, ?_⟩, defers := h.defers, size := Nat.le_trans h.size hg.size, keep := ?_, mine := ?_, mine2 := ?_, pin := ?_, low := h.low, os := hg.os.trans h.os, tape := hg.tape.trans h.tape, output := hg.output.trans h.output, par := h.par, glob := h.glob, gle := h.gle, gM := h.gM }
  · intro m' ob' hm'
    by_cases e : m' = m
    · subst e
      simp at hm'
      subst hm'
      simp only [ObRep, cR]
      exact ⟨cur, fr, hh, hfr, rfl, hl, fun e => (by rw [hr] at e; cases e), Reps.keeps hk hM _ _ (hηD _ hnc) hc⟩
    · have hm'' : X.hp m' = some ob' := by simpa [upd_ne e] using hm'
      refine (h.ok.objs m' ob' hm'').keeps hk hM (fun b' s' hb' => hg.block b' (h.ok.lt hb') (fun e' => ?_)) (vF e) (hηD _ (hno m' ob' e hm''))
      obtain ⟨s, hs⟩ := hrow b' e'.symm
      exact e (h.ok.inj m' m _ _ _ hb' hs)
  · intro m' q hq
    by_cases e : m' = m
    · subst e; simp
    · rw [vF e] at hq
      simpa [upd_ne e] using h.ok.dom m' q hq
  · intro m1 m2 b1 s s' h1 h2
    have key : ∀ m' s'', m' ≠ m → η m' = some (b, s'') → False := by
      intro m' s'' hne hq
      rcases hb with hb | hb
      · obtain ⟨s, hs⟩ := hrow b hb
        exact hne (h.ok.inj m' m _ _ _ hq hs)
      · have := h.ok.lt hq
        omega
    by_cases e1 : m1 = m <;> by_cases e2 : m2 = m
    · rw [e1, e2]
    · subst e1
      rw [vF e2] at h2
      simp at h1
      obtain ⟨rfl, _⟩ := h1
      exact (key m2 s' e2 h2).elim
    · subst e2
      rw [vF e1] at h1
      simp at h2
      obtain ⟨rfl, _⟩ := h2
      exact (key m1 s e1 h1).elim
    · rw [vF e1] at h1
      rw [vF e2] at h2
      exact h.ok.inj m1 m2 b1 s s' h1 h2
  · intro m' b' s hq hAb
    by_cases e : m' = m
    · subst e
      simp at hq
      obtain ⟨rfl, _⟩ := hq
      rcases hb with hb | hb
      · obtain ⟨s, hs⟩ := hrow b hb
        exact h.ok.noA m' b s hs hAb
      · have := hA b hAb
        omega
    · rw [vF e] at hq
      exact h.ok.noA m' b' s hq hAb
  · intro b' hb' hM0
    by_cases e : row = some b'
    · obtain ⟨s, hs⟩ := hrow b' e
      rcases h.mine m ob b' s hm ho hs with h1 | h1
      · exact absurd h1 hM0
      · omega
    · rw [hg.block b' (Nat.lt_of_lt_of_le hb' h.size) (fun e' => e e'.symm)]
      exact h.keep b' hb' hM0
  · intro m' ob' b' s' h1 h2 h3
    by_cases e : m' = m
    · subst e
      simp at h3
      obtain ⟨rfl, _⟩ := h3
      rcases hb with hb | hb
      · obtain ⟨s, hs⟩ := hrow b hb
        exact h.mine m' ob b s hm ho hs
      · exact .inr (Nat.le_trans h.size hb)
    · rw [vF e] at h3
      exact h.mine m' ob' b' s' (by simpa [upd_ne e] using h1) h2 h3
  · intro m' b' s' h3
    by_cases e : m' = m
    · subst e
      simp at h3
      obtain ⟨rfl, _⟩ := h3
      rcases hb with hb | hb
      · obtain ⟨s, hs⟩ := hrow b hb
        exact h.mine2 m' b s hs
      · exact .inr (Nat.le_trans h.size hb)
    · rw [vF e] at h3
      exact h.mine2 m' b' s' h3
  · intro m' ob' q h1 h2 h3
    by_cases e : m' = m
    · subst e
      simp at h1
      subst h1
      rw [hr] at h2
      cases h2
    · rw [vF e]
      exact h.pin m' ob' q (by simpa [upd_ne e] using h1) h2 h3
end Go.Ot

namespace Go.Ot
structure Rec where
  val : D
  upd : List (Nm × Option Ob) := []
  F : List Nm := []
  poi : List Nm := []
  bar : Bool := false
def nL (h : Nm → Option Ob) : List (Nm × Option Ob) → (Nm → Option Ob)
  | [] => h
  | (m, o) :: r => nL (upd h m o) r
def nR (sl : List D) (dst : Option Nat) (d : D) : List D := match dst with | some s => sl.set s d | none => sl
def St.poiL (X : St) : List Nm → St
  | [] => X
  | m :: r => (X.poi m).poiL r
def St.app (X : St) (dst : Option Nat) (r : Rec) : St := { sl := nR (X.poiL r.poi).sl dst r.val, hp := nL (X.poiL r.poi).hp r.upd }
def evc : Value → D
  | .agg vs => if vs.toList.all Value.oneCell' then .agg (vs.toList.map fun x => .t (.v x)) else .bad
  | .func (.func f) first caps => if first.isEmpty && caps.isEmpty then .fn f [] else .bad
  | x => .t (.v x)
def ev (X : St) : Operand → D
  | .tmp t => X.sl.getD t .bad
  | .const v => evc v
  | .global g => .t (.v (.pointer (some ⟨g, 0, none⟩)))
  | .func f => .fn f []
theorem yJE {w : World} {M : Nat → Prop} {η : Et} (v : Value) : Rep w M η (evc v) v := by
  unfold evc
  split
  · rename_i vs
    split
    · rename_i h
      refine ⟨vs, rfl, Reps.of_get (by simp) (fun j d hd => ?_)⟩
      simp only [List.getElem?_map, Option.map_eq_some_iff] at hd
      obtain ⟨x, hx, rfl⟩ := hd
      exact ⟨x, hx, List.all_eq_true.1 h x (List.mem_of_getElem? hx), rfl⟩
    · trivial
  · rename_i f first caps
    split
    · rename_i h
      simp only [Bool.and_eq_true, Array.isEmpty_iff] at h
      obtain ⟨rfl, rfl⟩ := h
      exact ⟨#[], rfl, rfl⟩
    · trivial
  · rfl
theorem Sim.ev {Γ : Gl} {E : Env} {X : St} {a : Act} {w : World} {η : Et} (h : Sim Γ E X a w η) (x : Operand) : Rep w (Mx X.hp η E.A) η (ev X x) (a.eval x) := by
  cases x with
  | tmp t =>
    simp only [Ot.ev, Act.eval]
    cases e : X.sl[t]? with
    | none => simp [List.getD_eq_getElem?_getD, e]; trivial
    | some d =>
      obtain ⟨u, hu, hr⟩ := h.slots.get e
      have hu' : a.tmps[t]? = some u := by simpa using hu
      simpa [List.getD_eq_getElem?_getD, e, Array.getD_eq_getD_getElem?, hu'] using hr
  | const v => exact yJE v
  | global g => exact rfl
  | func f => exact ⟨#[], rfl, rfl⟩
def Agree (X Y : St) (o : Oper) (r : Rec) : Prop :=
  True ∧ (∀ x ∈ o.op.operands.toList, ev Y x = ev X x) ∧ (∀ m ∈ r.F, Y.hp m = X.hp m)
theorem Agree.refl (X : St) (o : Oper) (r : Rec) : Agree X X o r := ⟨trivial, fun _ _ => rfl, fun _ _ => rfl⟩
def xD (Γ : Gl) (P : Program) (o : Oper) (X : St) (r : Rec) : Prop :=
  ∀ (E : Env) (Y : St) (a : Act) (w : World) (η : Et), Agree X Y o r → Sim Γ E Y a w η → ∀ (K : Act → World → Prop) (Q : Exit → Act → World → Prop),
    (∀ a' w' η', Sim Γ E (Y.app o.dst r) a' w' η' → K a' w') → o.wp P a w K Q
theorem wR {P : Program} {o : Oper} {a : Act} {w w' : World} {v : Value} {K : Act → World → Prop} {Q : Exit → Act → World → Prop}
    (h : (execOp a.eval o).run P w = .ok (.value v) w') (hk : K (a.put o.dst v) w') : o.wp P a w K Q := by
  unfold Oper.wp
  rw [h]
  exact hk
theorem yFm {P : Program} {o : Oper} {a : Act} {w w' : World} {K : Act → World → Prop} {Q : Exit → Act → World → Prop}
    (h : (execOp a.eval o).run P w = .ok .skip w') (hk : K (a.put o.dst undef) w') : o.wp P a w K Q := by
  unfold Oper.wp
  rw [h]
  exact hk
theorem wW {X : St} {dst : Option Nat} {d : D} {F : List Nm} {b : Bool} : X.app dst { val := d, F := F, bar := b } = { X with sl := match dst with | some s => X.sl.set s d | none => X.sl } := by
  cases dst <;> rfl
def D.atom : D → Value
  | .t (.v x) => x
  | _ => undef
def D.isAtom : D → Bool
  | .t (.v _) => true
  | _ => false
theorem D.of_isAtom {d : D} (h : d.isAtom = true) : d = .t (.v d.atom) := by
  unfold D.isAtom at h
  split at h
  · rfl
  · cases h
section
variable {Γ : Gl} {P : Program} {o : Oper} {X : St}
theorem cZ (x : Operand) (h : o.op = .move x ∨ o.op = .assign x) : xD Γ P o X { val := ev X x } := by
  intro E Y a w η hA hS K Q hK
  have hx : ev Y x = ev X x := hA.2.1 x (by rcases h with h | h <;> simp [h, Op.operands])
  refine wR (v := a.eval x) (w' := w) (by rcases h with h | h <;> simp [execOp, h]) (hK _ _ η ?_)
  rw [wW, ← hx]
  exact hS.put (hS.ev x) o.dst
theorem yDh (c x y : Operand) (h : o.op = .pick c x y) (b : Bool) (hc : ev X c = .t (.v (.bool b))) : xD Γ P o X { val := if b then ev X x else ev X y } := by
  intro E Y a w η hA hS K Q hK
  have hx : ev Y x = ev X x := hA.2.1 x (by simp [h, Op.operands])
  have hy : ev Y y = ev X y := hA.2.1 y (by simp [h, Op.operands])
  have hc' : a.eval c = .bool b := by
    have h1 := hS.ev c
    rw [hA.2.1 c (by simp [h, Op.operands]), hc] at h1
    exact h1
  refine wR (v := if b then a.eval x else a.eval y) (w' := w) (by simp [execOp, h, hc', asBool]) (hK _ _ η ?_)
  rw [wW, ← hx, ← hy]
  cases b
  · exact hS.put (hS.ev y) o.dst
  · exact hS.put (hS.ev x) o.dst
theorem uI (hs : ∀ cs b, o.op ≠ .select cs b) (hρ : ∀ x ∈ o.op.operands.toList, (ev X x).isAtom = true) (v : Value)
    (h : ∀ w, (execOp (fun x => (ev X x).atom) o).run P w = .ok (.value v) w) : xD Γ P o X { val := .t (.v v) } := by
  intro E Y a w η hA hS K Q hK
  have he : execOp a.eval o = execOp (fun x => (ev X x).atom) o := execOp_congr o hs (fun x hx => by
    have hx' : x ∈ o.op.operands.toList := by simpa using hx
    have h1 := hS.ev x
    rw [hA.2.1 x hx', D.of_isAtom (hρ x hx')] at h1
    exact h1)
  refine wR (v := v) (w' := w) (by rw [he]; exact h w) (hK _ _ η ?_)
  rw [wW]
  exact hS.put (by exact rfl) o.dst
end
end Go.Ot

namespace Go.Ot
def D.cells : D → Option (List D)
  | .t (.v x) => if x.oneCell' then some [.t (.v x)] else none
  | .t (.agg cs) => some (cs.map .t)
  | .t x => some [.t x]
  | .bad => none
  | .agg cs => some cs
  | .tup _ => none
  | d => some [d]
def D.ofCells (agg : Bool) (cs : List D) : D := if agg then .agg cs else cs.headD .bad
theorem cells_one {v : Value} (h : v.oneCell' = true) : v.cells = #[v] := by cases v <;> simp_all [Value.oneCell', Value.cells]
theorem Rep.cells {w : World} {M : Nat → Prop} {η : Et} {d : D} {u : Value} (h : Rep w M η d u) {ds : List D} (hd : d.cells = some ds) : Reps w M η ds u.cells.toList := by
  have one : ∀ u : Value, u.oneCell' = true → Rep w M η d u → Reps w M η [d] u.cells.toList := fun u hu hr => by
    rw [cells_one hu]
    exact ⟨u, [], rfl, hu, hr, rfl⟩
  unfold D.cells at hd
  split at hd
  · split at hd
    · cases hd
      have hu : u = _ := h
      subst hu
      exact one _ (by assumption) h
    · cases hd
  · cases hd
    obtain ⟨vs, rfl, h1⟩ := h
    exact Reps_T.2 h1
  · rename_i x hx1 hx2
    cases hd
    have hu : u.oneCell' = true := by
      cases x with
      | v x => exact absurd rfl (hx1 x)
      | sl n cs => obtain ⟨A, c, rfl, _⟩ := h; rfl
      | ifc t d => obtain ⟨x, rfl, _⟩ := h; rfl
      | agg cs => exact absurd rfl (hx2 cs)
    exact one u hu h
  · cases hd
  · cases hd
    obtain ⟨vs, rfl, h1⟩ := h
    exact h1
  · cases hd
  · rename_i h1 h2 h3 h4 h5 h6
    cases hd
    have hu : u.oneCell' = true := by
      cases d with
      | t x => exact absurd rfl (h3 x)
      | bad => exact absurd rfl h4
      | agg cs => exact absurd rfl (h5 cs)
      | tup cs => exact absurd rfl (h6 cs)
      | ifc ty d => obtain ⟨x, rfl, _⟩ := h; rfl
      | ptr m off => obtain ⟨b, s, _, rfl⟩ := h; rfl
      | rop cs => obtain ⟨a, rfl, _⟩ := h; rfl
      | msl m off n sz => obtain ⟨A, c, rfl, _⟩ := h; rfl
      | fn f caps => obtain ⟨vs, rfl, _⟩ := h; rfl
    exact one u hu h
def setAt (cs : List D) (off : Nat) : List D → List D
  | [] => cs
  | d :: ds => setAt (cs.set off d) (off + 1) ds
theorem setAt_length : ∀ (ds : List D) (cs : List D) (off : Nat), (setAt cs off ds).length = cs.length
  | [], cs, off => rfl
  | d :: ds, cs, off => by simp [setAt, setAt_length ds]
def vK (cs : List Value) (off : Nat) : List Value → List Value
  | [] => cs
  | d :: ds => vK (cs.set off d) (off + 1) ds
theorem setAtV_length : ∀ (ds : List Value) (cs : List Value) (off : Nat), (vK cs off ds).length = cs.length
  | [], cs, off => rfl
  | d :: ds, cs, off => by simp [vK, setAtV_length ds]
theorem Reps.setAt {w : World} {M : Nat → Prop} {η : Et} : ∀ {ds : List D} {us : List Value}, Reps w M η ds us → ∀ {cs : List D} {vs : List Value} (off : Nat), Reps w M η cs vs → Reps w M η (setAt cs off ds) (vK vs off us)
  | [], us, h, cs, vs, off, k => by have h : us = [] := h; subst h; exact k
  | d :: ds, us, h, cs, vs, off, k => by
    obtain ⟨u, us', rfl, h1, h2, h3⟩ := h
    exact Reps.setAt h3 (off + 1) (k.set off h1 h2)
theorem vI (P : Program) (g o : Nat) (t : TypeId) (fr : Nat × Nat) : ∀ (vs : List Value) (i : Nat) (cur : Array Value) (w : World), w.heap[g]? = some (.cells cur t fr) → (∀ j, j < cur.size → ¬ (fr.1 ≤ j ∧ j < fr.2)) → o + i + vs.length ≤ cur.size → (∀ v ∈ vs, v.oneCell' = true) →
    (storeCells ⟨g, o, none⟩ vs i).run P w = .ok () (w.setRow g (vK cur.toList (o + i) vs).toArray)
  | [], i, cur, w, hg, _, _, _ => by
    simp only [storeCells, vK, Array.toArray_toList]
    rw [setRow_self w g cur t fr hg]
    rfl
  | v :: rest, i, cur, w, hg, hfr, hl, h1 => by
    have hi : o + i < cur.size := by simp at hl; omega
    have hadd : (⟨g, o, none⟩ : Addr).add i = ⟨g, o + i, none⟩ := by unfold Addr.add; split <;> simp_all
    have hcell : w.cell? ⟨g, o + i, none⟩ = some cur[o + i] := by simp [World.cell?, hg, hi]
    have hfro : w.frozen? ⟨g, o + i, none⟩ = false := by
      have := hfr (o + i) hi
      obtain ⟨lo, hi'⟩ := fr
      simp only [World.frozen?, hg]
      simpa using this
    have hst : (store ((⟨g, o, none⟩ : Addr).add i) v).run P w = .ok () (w.setRow g (cur.setIfInBounds (o + i) v)) := by
      rw [hadd, run_store P w _ v _ (h1 v (by simp)), hcell]
      simp [hfro, setCell_eq_setRow w g (o + i) cur t fr v hg]
    have ih := vI P g o t fr rest (i + 1) (cur.setIfInBounds (o + i) v) (w.setRow g (cur.setIfInBounds (o + i) v)) (setRow_heap w g cur _ t _ hg) (by simpa using hfr) (by simp at hl ⊢; omega) (fun x hx => h1 x (by simp [hx]))
    simp only [storeCells, Sem.run_bind, hst, Result.andThen_ok, ih, setRow_setRow, vK, Array.toList_setIfInBounds, Nat.add_assoc]
theorem Reps.one {w : World} {M : Nat → Prop} {η : Et} {ds : List D} {us : List Value} (h : Reps w M η ds us) : ∀ u ∈ us, u.oneCell' = true := by
  induction ds generalizing us with
  | nil => have h : us = [] := h; subst h; simp
  | cons d ds ih =>
    obtain ⟨u, us', rfl, h1, _, h3⟩ := h
    intro x hx
    rcases List.mem_cons.1 hx with rfl | hx
    · exact h1
    · exact ih h3 x hx
structure Block (w : World) (M : Nat → Prop) (η : Et) (m : Nm) (ob : Ob) (b s : Nat) (cur : Array Value) (fr : Nat × Nat) : Prop where
  at_ : η m = some (b, s)
  heap : w.heap[b]? = some (.cells cur ob.ty fr)
  free : ∀ j, j < cur.size → ¬ (fr.1 ≤ j ∧ j < fr.2)
  size : cur.size = s
  le : ob.cells.length ≤ s
  box : ob.row = false → ob.ty ≠ looseT → ob.cells.length = s
  reps : Reps w M η ob.cells (cur.toList.take ob.cells.length)
theorem Sim.block {Γ : Gl} {E : Env} {X : St} {a : Act} {w : World} {η : Et} (h : Sim Γ E X a w η) {m : Nm} {ob : Ob} (hm : X.hp m = some ob) {b s : Nat} (hη : η m = some (b, s)) : ∃ cur fr, Block w (Mx X.hp η E.A) η m ob b s cur fr := by
  have := h.ok.objs m ob hm
  simp only [ObRep, hη] at this
  obtain ⟨cur, fr, h1, h2, h3, h4, h5, h6⟩ := this
  exact ⟨cur, fr, hη, h1, h2, h3, h4, h5, h6⟩
theorem Block.cell {w : World} {M : Nat → Prop} {η : Et} {m : Nm} {ob : Ob} {b s : Nat} {cur : Array Value} {fr : Nat × Nat} (h : Block w M η m ob b s cur fr) {j : Nat} {d : D} (hd : ob.cells[j]? = some d) :
    ∃ u, w.cell? ⟨b, j, none⟩ = some u ∧ u.oneCell' = true ∧ Rep w M η d u := by
  obtain ⟨u, hu, h1, h2⟩ := h.reps.get hd
  refine ⟨u, ?_, h1, h2⟩
  rw [cell_of_row w b j cur ob.ty fr h.heap]
  rw [List.getElem?_take] at hu
  split at hu
  · simpa using hu
  · cases hu
def xP (P : Program) (t : TypeId) : Bool := match P.underlying t with | some (.struct _) | some (.array _ _) => true | _ => false
theorem mE {P : Program} {t : TypeId} (h : (P.underlying t).isSome = true) (w : World) : (isAgg t).run P w = .ok (xP P t) w := by
  obtain ⟨d, hd⟩ := Option.isSome_iff_exists.1 h
  simp only [isAgg, xP, hd, Sem.run_bind, run_underlying hd, Result.andThen_ok]
  cases d <;> rfl
theorem run_sizeOf {P : Program} {t : TypeId} (h : (P.info? t).isSome = true) (w : World) : (sizeOf t).run P w = .ok (P.cellsOf t) w := by
  obtain ⟨i, hi⟩ := Option.isSome_iff_exists.1 h
  simp [sizeOf, typeInfo, hi, Program.cellsOf]
theorem Reps.ofCells {w : World} {M : Nat → Prop} {η : Et} {ds : List D} {us : List Value} (h : Reps w M η ds us) (ag : Bool) {u : Value} (hu : ag = false → us[0]? = some u) : Rep w M η (D.ofCells ag ds) (if ag then .agg us.toArray else u) := by
  cases ag with
  | true => exact ⟨us.toArray, rfl, by simpa using h⟩
  | false =>
    cases ds with
    | nil => trivial
    | cons d ds =>
      obtain ⟨x, us', rfl, h1, h2, h3⟩ := h
      have := hu rfl
      simp at this
      subst this
      simpa [D.ofCells] using h2
theorem vJ {P : Program} {w : World} {t : TypeId} (a : Addr) (us : List Value) (h1 : (P.underlying t).isSome = true) (h2 : (P.info? t).isSome = true) (hl : us.length = P.cellsOf t) (hne : xP P t = false → P.cellsOf t = 1) (hc : ∀ j u, us[j]? = some u → w.cell? (a.add j) = some u) :
    ∃ u, (xP P t = false → us[0]? = some u) ∧ (loadVar t a).run P w = .ok (if xP P t then .agg us.toArray else u) w := by
  cases hb : xP P t with
  | true =>
    refine ⟨undef, (fun h => by cases h), ?_⟩
    simp [loadVar, mE h1, run_sizeOf h2, hb, ← hl, run_loadCells_list w a us hc]
  | false =>
    have h0 := hne hb
    cases us with
    | nil => simp at hl; omega
    | cons u us' =>
      refine ⟨u, fun _ => by simp, ?_⟩
      have := hc 0 u (by simp)
      simp only [Addr.add, if_true] at this
      simp [loadVar, mE h1, hb, run_load, this]
section
variable {Γ : Gl} {P : Program} {o : Oper} {X : St}
theorem sJ (b off j : Nat) : (⟨b, off, none⟩ : Addr).add j = ⟨b, off + j, none⟩ := by unfold Addr.add; split <;> simp_all
theorem nZ (t : TypeId) (x : Operand) (h : o.op = .load t x) {m : Nm} {off : Nat} (hx : ev X x = .ptr m off) {ob : Ob} (hm : X.hp m = some ob) (h1 : (P.underlying t).isSome = true) (h2 : (P.info? t).isSome = true)
    (hl : off + P.cellsOf t ≤ ob.cells.length) (hne : xP P t = false → P.cellsOf t = 1) : xD Γ P o X { val := D.ofCells (xP P t) ((ob.cells.drop off).take (P.cellsOf t)), F := [m] } := by
  intro E Y a w η hA hS K Q hK
  have hr := hS.ev x
  rw [hA.2.1 x (by simp [h, Op.operands]), hx] at hr
  obtain ⟨b, s, hη, he⟩ := hr
  have hm' : Y.hp m = some ob := (hA.2.2 m (by simp)).trans hm
  obtain ⟨cur, fr, hb⟩ := hS.block hm' hη
  have hR := (hb.reps.drop off).take (P.cellsOf t)
  generalize hus : (List.take (P.cellsOf t) (List.drop off (List.take ob.cells.length cur.toList))) = us at hR
  have hlen : us.length = P.cellsOf t := by
    rw [← hus]
    have := hb.le
    have := hb.size
    simp; omega
  have hc : ∀ j u, us[j]? = some u → w.cell? ((⟨b, off, none⟩ : Addr).add j) = some u := by
    intro j u hu
    rw [sJ, cell_of_row w b (off + j) cur ob.ty fr hb.heap]
    rw [← hus, List.getElem?_take] at hu
    split at hu
    · rw [List.getElem?_drop, List.getElem?_take] at hu
      split at hu
      · simpa using hu
      · cases hu
    · cases hu
  obtain ⟨u, hu0, hrun⟩ := vJ (P := P) ⟨b, off, none⟩ us h1 h2 hlen hne hc
  refine wR (v := if xP P t then .agg us.toArray else u) (w' := w) (by simp [execOp, h, he, Instr.loadAt, Instr.sureAddr, hrun]) (hK _ _ η ?_)
  rw [wW]
  exact hS.put (hR.ofCells _ hu0) o.dst
theorem nY (t : TypeId) (x : Operand) (h : o.op = .load t x) {cs : List T} (hx : ev X x = .rop cs) (h1 : (P.underlying t).isSome = true) (h2 : (P.info? t).isSome = true)
    (hl : P.cellsOf t ≤ cs.length) (h0 : 0 < P.cellsOf t) (hne : xP P t = false → P.cellsOf t = 1) : xD Γ P o X { val := D.ofCells (xP P t) ((cs.map D.t).take (P.cellsOf t)) } := by
  intro E Y a w η hA hS K Q hK
  have hr := hS.ev x
  rw [hA.2.1 x (by simp [h, Op.operands]), hx] at hr
  obtain ⟨ad, he, hR⟩ := hr
  rcases hR with hR | ⟨_, hR⟩
  · subst hR; simp at hl; omega
  obtain ⟨us, hlen, hget⟩ : ∃ us : List Value, us.length = P.cellsOf t ∧ ∀ j (hj : j < P.cellsOf t), ∃ u, us[j]? = some u ∧ w.cell? (ad.add j) = some u ∧ u.oneCell' = true ∧ RepT w (Mx Y.hp η E.A) (cs[j]'(by omega)) u := by
    have : ∀ n, n ≤ P.cellsOf t → ∃ us : List Value, us.length = n ∧ ∀ j (hj : j < n), ∃ u, us[j]? = some u ∧ w.cell? (ad.add j) = some u ∧ u.oneCell' = true ∧ ∃ hj' : j < cs.length, RepT w (Mx Y.hp η E.A) (cs[j]'hj') u := by
      intro n
      induction n with
      | zero => exact fun _ => ⟨[], rfl, fun j hj => by omega⟩
      | succ n ih =>
        intro hn
        obtain ⟨us, hl', hg⟩ := ih (by omega)
        obtain ⟨u, hu, hu1, hu2⟩ := hR.get (i := n) (d := cs[n]'(by omega)) (List.getElem?_eq_getElem (by omega))
        refine ⟨us ++ [u], by simp [hl'], fun j hj => ?_⟩
        by_cases e : j = n
        · subst e
          exact ⟨u, by simp [← hl'], by simpa using hu, hu1, by omega, hu2⟩
        · obtain ⟨u', h1, h2⟩ := hg j (by omega)
          exact ⟨u', by rw [List.getElem?_append_left (by omega)]; exact h1, h2⟩
    obtain ⟨us, h1, h2⟩ := this _ (Nat.le_refl _)
    refine ⟨us, h1, fun j hj => ?_⟩
    obtain ⟨u, h3, h4, h5, h6, h7⟩ := h2 j hj
    exact ⟨u, h3, h4, h5, h7⟩
  have hc : ∀ j u, us[j]? = some u → w.cell? (ad.add j) = some u := by
    intro j u hu
    have hj : j < P.cellsOf t := by rw [← hlen]; exact (List.getElem?_eq_some_iff.1 hu).1
    obtain ⟨u', h3, h4, _⟩ := hget j hj
    rw [h3] at hu
    cases hu
    exact h4
  have hRs : Reps w (Mx Y.hp η E.A) η ((cs.map D.t).take (P.cellsOf t)) us := by
    refine Reps.of_get (by simp [hlen]; omega) (fun j d hd => ?_)
    rw [List.getElem?_take] at hd
    split at hd
    · rename_i hj
      obtain ⟨u, h3, h4, h5, h6⟩ := hget j hj
      have hjc : j < cs.length := by omega
      simp only [List.getElem?_map, List.getElem?_eq_getElem hjc, Option.map_some, Option.some.injEq] at hd
      subst hd
      exact ⟨u, h3, h5, h6⟩
    · cases hd
  obtain ⟨u, hu0, hrun⟩ := vJ (P := P) ad us h1 h2 hlen hne hc
  refine wR (v := if xP P t then .agg us.toArray else u) (w' := w) (by simp [execOp, h, he, Instr.loadAt, Instr.sureAddr, hrun]) (hK _ _ η ?_)
  rw [wW]
  exact hS.put (hRs.ofCells _ hu0) o.dst
theorem uN {dst : Option Nat} {d : D} {F : List Nm} {b : Bool} {m : Nm} {ob : Option Ob} : X.app dst { val := d, F := F, bar := b, upd := [(m, ob)] } = { ({ X with hp := upd X.hp m ob } : St) with sl := match dst with | some s => X.sl.set s d | none => X.sl } := by
  cases dst <;> rfl
theorem yCd (t : TypeId) (x y : Operand) (h : o.op = .store t x y) {m : Nm} {off : Nat} (hx : ev X x = .ptr m off) {ob : Ob} (hm : X.hp m = some ob) (ho : ob.own = true) {ds : List D} (hy : (ev X y).cells = some ds)
    (h2 : (P.info? t).isSome = true) (hn : P.cellsOf t = ds.length) (hl : off + ds.length ≤ ob.cells.length) : xD Γ P o X { val := .bad, F := [m], upd := [(m, some { ob with cells := setAt ob.cells off ds })] } := by
  intro E Y a w η hA hS K Q hK
  have hr := hS.ev x
  rw [hA.2.1 x (by simp [h, Op.operands]), hx] at hr
  obtain ⟨b, s, hη, he⟩ := hr
  have hry := hS.ev y
  rw [hA.2.1 y (by simp [h, Op.operands])] at hry
  have hRy := hry.cells hy
  have hm' : Y.hp m = some ob := (hA.2.2 m (by simp)).trans hm
  obtain ⟨cur, fr, hb⟩ := hS.block hm' hη
  have hle := hb.le
  have hsz := hb.size
  have hlen : (a.eval y).cells.toList.length = ds.length := hRy.length
  have hst := vI P b off ob.ty fr (a.eval y).cells.toList 0 cur w hb.heap hb.free (by omega) hRy.one
  have hsz2 : (a.eval y).cells.size = P.cellsOf t := by rw [hn, ← hlen]; simp
  refine yFm (w' := w.setRow b (vK cur.toList off (a.eval y).cells.toList).toArray) (by
    simp only [execOp, h, Instr.storeAt, he, Instr.sureAddr, storeVar, Sem.run_bind, Sem.run_pure, Result.andThen_ok, run_sizeOf h2, hsz2, ne_eq, not_true, if_false]
    rw [Nat.add_zero] at hst
    rw [hst]; rfl) (hK _ _ η ?_)
  rw [uN]
  refine Sim.put (X := { Y with hp := upd Y.hp m _ }) (hS.write hm' ho hη (setAt ob.cells off ds) _ ?_ ?_ ?_ ?_) (d := .bad) (u := undef) trivial o.dst
  · simp [setAtV_length, hsz]
  · rw [setAt_length]; exact hle
  · rw [setAt_length]; exact hb.box
  · rw [setAt_length]
    have := Reps.setAt hRy off hb.reps
    refine Reps.of_get (by simp [setAt_length, setAtV_length]; omega) (fun j d hd => ?_)
    obtain ⟨u, hu, h3, h4⟩ := this.get hd
    refine ⟨u, ?_, h3, h4⟩
    have key : ∀ (us : List Value) (cs : List Value) (off n : Nat), off + us.length ≤ n → (vK cs off us).take n = vK (cs.take n) off us := by
      intro us
      induction us with
      | nil => intro cs off n _; rfl
      | cons u us ih =>
        intro cs off n hn
        simp only [vK]
        rw [ih _ _ _ (by simp at hn; omega), List.take_set]
    rw [List.toList_toArray, key _ _ _ _ (by omega)]
    exact hu
end
end Go.Ot

namespace Go.Ot
section
variable {Γ : Gl} {P : Program} {o : Oper} {X : St}
theorem Sim.not_par {Γ : Gl} {E : Env} {X : St} {a : Act} {w : World} {η : Et} (h : Sim Γ E X a w η) (rid i k : Nat) : E.η0 (.r rid i k) = none := by
  cases e : E.η0 (.r rid i k) with
  | none => rfl
  | some q =>
    obtain ⟨j, hj⟩ := h.par _ _ e
    cases hj
def wM (P : Program) (t : TypeId) : Option (List D) :=
  match P.info? t with
  | some i => match i.zero with
    | some z => if z.cells.toList.all Value.oneCell' then some (z.cells.toList.map fun x => .t (.v x)) else none
    | none => none
  | none => none
theorem pT {t : TypeId} {ds : List D} (h : wM P t = some ds) : ∃ i z, P.info? t = some i ∧ i.zero = some z ∧ ∀ w M η, Reps w M η ds z.cells.toList := by
  unfold wM at h
  split at h
  · rename_i i hi
    split at h
    · rename_i z hz
      split at h
      · rename_i hall
        cases h
        refine ⟨i, z, hi, hz, fun w M η => Reps.of_get (by simp) (fun j d hd => ?_)⟩
        simp only [List.getElem?_map, Option.map_eq_some_iff] at hd
        obtain ⟨x, hx, rfl⟩ := hd
        exact ⟨x, hx, List.all_eq_true.1 hall x (List.mem_of_getElem? hx), rfl⟩
      · cases h
    · cases h
  · cases h
theorem yCg (t : TypeId) (h : o.op = .alloc t) (rid i k : Nat) (hm : X.hp (.r rid i k) = none) {ds : List D} (hz : wM P t = some ds) :
    xD Γ P o X { val := .ptr (.r rid i k) 0, F := [.r rid i k], upd := [(.r rid i k, some ⟨ds, t, false, true⟩)] } := by
  intro E Y a w η hA hS K Q hK
  obtain ⟨inf, z, hi, hzz, hR⟩ := pT hz
  have hm' : Y.hp (.r rid i k) = none := (hA.2.2 _ (by simp)).trans hm
  have hr := hR w (Mx Y.hp η E.A) η
  refine wR (v := .pointer (some ⟨w.heap.size, 0, none⟩)) (w' := w.alloc (.cells z.cells t)) (by simp [execOp, h, Instr.alloc, zeroValue, typeInfo, hi, hzz, newVar, newRow]) (hK _ _ (fH η (.r rid i k) (some (w.heap.size, z.cells.size))) ?_)
  rw [uN]
  have hl : z.cells.toList.length = ds.length := hr.length
  refine Sim.put (X := { Y with hp := upd Y.hp _ _ }) (hS.new hm' (hS.not_par rid i k) ⟨ds, t, false, true⟩ z.cells (0, 0) (by intro j _ ⟨_, h2⟩; omega) rfl (by simp at hl ⊢; omega) (by intro _; simp at hl ⊢; omega) ?_) (d := .ptr _ 0) ⟨w.heap.size, z.cells.size, by simp, rfl⟩ o.dst
  have : z.cells.toList.take ds.length = z.cells.toList := by rw [← hl]; exact List.take_length
  simpa [this] using hr
theorem yFE (t : TypeId) (x : Operand) (h : o.op = .box t x) (rid i k : Nat) (hm : X.hp (.r rid i k) = none) {ds : List D} (hx : (ev X x).cells = some ds) :
    xD Γ P o X { val := .ptr (.r rid i k) 0, F := [.r rid i k], upd := [(.r rid i k, some ⟨ds, t, false, true⟩)] } := by
  intro E Y a w η hA hS K Q hK
  have hm' : Y.hp (.r rid i k) = none := (hA.2.2 _ (by simp)).trans hm
  have hr := hS.ev x
  rw [hA.2.1 x (by simp [h, Op.operands])] at hr
  have hr := hr.cells hx
  refine wR (v := .pointer (some ⟨w.heap.size, 0, none⟩)) (w' := w.alloc (.cells (a.eval x).cells t)) (by simp [execOp, h, Instr.box, newVar, newRow]) (hK _ _ (fH η (.r rid i k) (some (w.heap.size, (a.eval x).cells.size))) ?_)
  rw [uN]
  have hl : (a.eval x).cells.toList.length = ds.length := hr.length
  refine Sim.put (X := { Y with hp := upd Y.hp _ _ }) (hS.new hm' (hS.not_par rid i k) ⟨ds, t, false, true⟩ (a.eval x).cells (0, 0) (by intro j _ ⟨_, h2⟩; omega) rfl (by simp at hl ⊢; omega) (by intro _; simp at hl ⊢; omega) ?_) (d := .ptr _ 0) ⟨w.heap.size, (a.eval x).cells.size, by simp, rfl⟩ o.dst
  have : (a.eval x).cells.toList.take ds.length = (a.eval x).cells.toList := by rw [← hl]; exact List.take_length
  simpa [this] using hr
def lL (place : Nat → Option (Nat × Nat)) (cells : List D) : List (Nat × D) → Option (List D)
  | [] => some cells
  | (i, d) :: r => match place i, d.cells with
    | some (off, size), some ds => if ds.length = size ∧ off + size ≤ cells.length then lL place (setAt cells off ds) r else none
    | _, _ => none
theorem foldl_set (off : Nat) : ∀ (us : List Value) (k : Nat) (cs : Array Value), (us.zipIdx k).foldl (fun cs (p : Value × Nat) => cs.setIfInBounds (off + p.2) p.1) cs = (vK cs.toList (off + k) us).toArray
  | [], k, cs => by simp [vK]
  | u :: us, k, cs => by
    simp only [List.zipIdx_cons, List.foldl_cons, vK]
    rw [foldl_set off us (k + 1)]
    simp [Array.toList_setIfInBounds, Nat.add_assoc]
theorem gB {w : World} {M : Nat → Prop} {η : Et} (place : Nat → Option (Nat × Nat)) : ∀ (ps : List (Nat × D)) (vs : List (Nat × Value)) (cells : List D) (us : Array Value) {out : List D}, ps.map (·.1) = vs.map (·.1) → RepsA w M η (ps.map (·.2)) (vs.map (·.2)) →
    Reps w M η cells us.toList → lL place cells ps = some out → ∃ us', Instr.fill place us vs = some us' ∧ Reps w M η out us'.toList
  | [], vs, cells, us, out, h1, h2, h3, h4 => by
    have : vs = [] := by simpa using h1
    subst this
    cases h4
    exact ⟨us, rfl, h3⟩
  | (i, d) :: ps, vs, cells, us, out, h1, h2, h3, h4 => by
    cases vs with
    | nil => simp at h1
    | cons v vs =>
      obtain ⟨i', u⟩ := v
      simp only [List.map_cons, List.cons.injEq] at h1
      obtain ⟨rfl, h1⟩ := h1
      obtain ⟨x, xs, hx, h5, h6⟩ := h2
      simp only [List.map_cons, List.cons.injEq] at hx
      obtain ⟨rfl, rfl⟩ := hx
      simp only [lL] at h4
      split at h4
      · rename_i off size ds hp hd
        split at h4
        · rename_i hc
          have hr := h5.cells hd
          have hl : u.cells.size = ds.length := by have := hr.length; simpa using this
          have hul : us.size = cells.length := by have := h3.length; simpa using this
          have hz := foldl_set off u.cells.toList 0 us
          have h7 := Reps.setAt hr off h3
          obtain ⟨us', h8, h9⟩ := gB place ps vs (setAt cells off ds) (vK us.toList off u.cells.toList).toArray h1 h6 (by simpa using h7) h4
          refine ⟨us', ?_, h9⟩
          simp only [Instr.fill, hp]
          rw [if_neg (by simp; omega)]
          rw [← h8]
          congr 1
          rw [← Array.foldl_toList, Array.toList_zipIdx]
          simpa using hz
        · cases h4
      · cases h4
theorem RepsA.of_map {w : World} {M : Nat → Prop} {η : Et} {a : Act} (ps : List (Nat × Operand)) (h : ∀ x ∈ ps.map (·.2), Rep w M η (ev X x) (a.eval x)) : RepsA w M η ((ps.map fun p => (p.1, ev X p.2)).map (·.2)) ((ps.map fun p => (p.1, a.eval p.2)).map (·.2)) := by
  induction ps with
  | nil => rfl
  | cons p ps ih => exact ⟨_, _, rfl, h _ (by simp), ih (fun x hx => h x (by simp at hx ⊢; exact .inr hx))⟩
def placeOf (P : Program) (t : TypeId) (i : Nat) : Option (Nat × Nat) :=
  match P.underlying t with
  | some (.struct fs) => (fs[i]?).map fun f => (f.offset, P.cellsOf f.type)
  | some (.array _ e) => some (i * P.cellsOf e, P.cellsOf e)
  | _ => none
def wO (P : Program) (t : TypeId) : Bool :=
  match P.underlying t with
  | some (.struct fs) => fs.toList.all fun f => (P.info? f.type).isSome
  | some (.array _ e) => (P.info? e).isSome
  | _ => false
theorem jY {w : World} : ∀ (fs : List Field), (fs.all fun f => (P.info? f.type).isSome) = true → (fs.mapM (m := Sem) fun f => Prod.mk f.offset <$> sizeOf f.type).run P w = .ok (fs.map fun f => (f.offset, P.cellsOf f.type)) w
  | [], _ => rfl
  | f :: fs, h => by
    simp only [List.all_cons, Bool.and_eq_true] at h
    simp only [List.mapM_cons, Sem.run_bind, Sem.run_map, run_sizeOf h.1, Result.andThen_ok, jY fs h.2, Sem.run_pure, List.map_cons]
theorem yCf (t : TypeId) (parts : Array (Nat × Operand)) (h : o.op = .build t parts) {zs ds : List D} (hz : wM P t = some zs) (hp : wO P t = true) (hf : lL (placeOf P t) zs (parts.toList.map fun p => (p.1, ev X p.2)) = some ds) :
    xD Γ P o X { val := .agg ds } := by
  intro E Y a w η hA hS K Q hK
  obtain ⟨inf, z, hi, hzz, hR⟩ := pT hz
  have hps : RepsA w (Mx Y.hp η E.A) η ((parts.toList.map fun p => (p.1, ev X p.2)).map (·.2)) ((parts.toList.map fun p => (p.1, a.eval p.2)).map (·.2)) :=
    RepsA.of_map _ (fun x hx => by
      have := hS.ev x
      rwa [hA.2.1 x (by rw [h]; simpa [Op.operands] using hx)] at this)
  obtain ⟨us, hus, hRs⟩ := gB (placeOf P t) _ (parts.toList.map fun p => (p.1, a.eval p.2)) zs z.cells (by simp) hps (hR _ _ _) hf
  refine wR (v := .agg us) (w' := w) ?_ (hK _ _ η ?_)
  · simp only [execOp, h, Instr.build, zeroValue, typeInfo, Sem.run_bind, run_program, Result.andThen_ok, hi, hzz, Sem.run_pure]
    unfold wO at hp
    split at hp
    · rename_i fs hfs
      have hpl : (placeOf P t) = fun i => (fs.toList.map fun f => (f.offset, P.cellsOf f.type))[i]? := by
        funext i
        simp [placeOf, hfs]
      rw [hpl] at hus
      simp only [run_underlying hfs, Result.andThen_ok]
      have hmm : (fs.mapM (m := Sem) fun f => Prod.mk f.offset <$> sizeOf f.type).run P w = .ok (fs.toList.map fun f => (f.offset, P.cellsOf f.type)).toArray w := by
        rw [Array.mapM_eq_mapM_toList]
        simp only [Sem.run_map, jY fs.toList hp, Result.andThen_ok]
      simp only [bind_pure_comp, Sem.run_bind, hmm, Result.andThen_ok, List.getElem?_toArray, Array.toList_map]
      rw [hus]
      rfl
    · rename_i n e he
      have hpl : (placeOf P t) = fun i => some (i * P.cellsOf e, P.cellsOf e) := by
        funext i
        simp [placeOf, he]
      rw [hpl] at hus
      simp only [run_underlying he, Result.andThen_ok, Sem.run_bind, run_sizeOf hp]
      simp only [Array.toList_map]
      rw [hus]
      rfl
    · cases hp
  · rw [wW]
    exact hS.put (d := .agg ds) ⟨us, rfl, hRs⟩ o.dst
end
end Go.Ot

namespace Go.Ot
section
variable {Γ : Gl} {P : Program} {o : Oper} {X : St}
theorem yB3 (a : Addr) (k j : Nat) : (a.add k).add j = a.add (k + j) := by
  unfold Addr.add
  by_cases hk : k = 0
  · simp [hk]
  · by_cases hj : j = 0
    · simp [hk, hj]
    · have : k + j ≠ 0 := by omega
      simp [hk, hj, Nat.add_assoc]
theorem RepTAt.drop {w : World} {M : Nat → Prop} {a : Addr} {cs : List T} (h : RepTAt w M a 0 cs) (k : Nat) : RepTAt w M (a.add k) 0 (cs.drop k) :=
  RepTAt.of_get (fun i d hd => by
    rw [List.getElem?_drop] at hd
    have := h.get hd
    rw [Nat.zero_add] at this
    rwa [yB3, Nat.zero_add])
theorem RepTAt.take {w : World} {M : Nat → Prop} {a : Addr} {cs : List T} (h : RepTAt w M a 0 cs) (k : Nat) : RepTAt w M a 0 (cs.take k) :=
  RepTAt.of_get (fun i d hd => by
    rw [List.getElem?_take] at hd
    split at hd
    · exact h.get hd
    · cases hd)
def wB (P : Program) (s f : Nat) : Option (Nat × Nat × TypeId) :=
  match P.underlying s with
  | some (.struct fs) => (fs[f]?).map fun fd => (fd.offset, P.cellsOf fd.type, fd.type)
  | _ => none
theorem jO {s f off n ty : Nat} (h : wB P s f = some (off, n, ty)) (hn : 0 < n) (hi : (P.info? ty).isSome = true) (a : Addr) (w : World) : (Instr.fieldAt s (.pointer (some a)) f).run P w = .ok (.pointer (some (a.add off))) w := by
  unfold wB at h
  split at h
  · rename_i fs hfs
    simp only [Option.map_eq_some_iff, Prod.mk.injEq] at h
    obtain ⟨fd, hfd, rfl, rfl, rfl⟩ := h
    have : ¬ P.cellsOf fd.type = 0 := by omega
    simp [Instr.fieldAt, run_underlying hfs, hfd, Instr.sureAddr, fieldPlace, run_sizeOf hi, this]
  · cases h
theorem mC (s : TypeId) (x : Operand) (f : Nat) (h : o.op = .fieldAddr s x f) {m : Nm} {off : Nat} (hx : ev X x = .ptr m off) {fo n ty : Nat} (hf : wB P s f = some (fo, n, ty)) (hn : 0 < n) (hi : (P.info? ty).isSome = true) :
    xD Γ P o X { val := .ptr m (off + fo) } := by
  intro E Y a w η hA hS K Q hK
  have hr := hS.ev x
  rw [hA.2.1 x (by simp [h, Op.operands]), hx] at hr
  obtain ⟨b, sz, hη, he⟩ := hr
  refine wR (v := .pointer (some ⟨b, off + fo, none⟩)) (w' := w) (by simp [execOp, h, he, jO hf hn hi, sJ]) (hK _ _ η ?_)
  rw [wW]
  exact hS.put (d := .ptr m (off + fo)) ⟨b, sz, hη, rfl⟩ o.dst
theorem mB (s : TypeId) (x : Operand) (f : Nat) (h : o.op = .fieldAddr s x f) {cs : List T} (hx : ev X x = .rop cs) {fo n ty : Nat} (hf : wB P s f = some (fo, n, ty)) (hn : 0 < n) (hi : (P.info? ty).isSome = true) :
    xD Γ P o X { val := .rop (cs.drop fo) } := by
  intro E Y a w η hA hS K Q hK
  have hr := hS.ev x
  rw [hA.2.1 x (by simp [h, Op.operands]), hx] at hr
  obtain ⟨ad, he, hR⟩ := hr
  refine wR (v := .pointer (some (ad.add fo))) (w' := w) (by simp [execOp, h, he, jO hf hn hi]) (hK _ _ η ?_)
  rw [wW]
  refine hS.put (d := .rop (cs.drop fo)) ⟨_, rfl, ?_⟩ o.dst
  rcases hR with hR | ⟨h1, h2⟩
  · exact .inl (by rw [hR]; simp)
  · exact .inr ⟨by rwa [add_block], h2.drop fo⟩
theorem yBo {t : TypeId} {us : List Value} {off : Nat} (h1 : (P.underlying t).isSome = true) (h2 : (P.info? t).isSome = true) (hl : off + P.cellsOf t ≤ us.length) (hne : xP P t = false → P.cellsOf t = 1) (w : World) :
    ∃ u, (xP P t = false → ((us.drop off).take (P.cellsOf t))[0]? = some u) ∧ (part t us.toArray off).run P w = .ok (if xP P t then .agg ((us.drop off).take (P.cellsOf t)).toArray else u) w := by
  cases hb : xP P t with
  | true =>
    refine ⟨undef, (fun h => by cases h), ?_⟩
    simp only [part, Sem.run_bind, mE h1, hb, Result.andThen_ok, if_true, run_sizeOf h2, Sem.run_pure]
    congr 2
    apply Array.ext'
    simp [List.drop_take]
  | false =>
    have h0 := hne hb
    have hlt : off < us.length := by omega
    refine ⟨us[off], fun _ => ?_, ?_⟩
    · rw [h0, List.getElem?_take, if_pos (by omega), List.getElem?_drop]
      simp [hlt]
    · simp [part, mE h1, hb, hlt]
theorem yCe (s : TypeId) (x : Operand) (f : Nat) (h : o.op = .field s x f) {ds : List D} (hx : ev X x = .agg ds) {fo n ty : Nat} (hf : wB P s f = some (fo, n, ty)) (h1 : (P.underlying ty).isSome = true) (h2 : (P.info? ty).isSome = true)
    (hl : fo + n ≤ ds.length) (hne : xP P ty = false → n = 1) : xD Γ P o X { val := D.ofCells (xP P ty) ((ds.drop fo).take n) } := by
  intro E Y a w η hA hS K Q hK
  have hr := hS.ev x
  rw [hA.2.1 x (by simp [h, Op.operands]), hx] at hr
  obtain ⟨vs, he, hR⟩ := hr
  unfold wB at hf
  split at hf
  · rename_i fs hfs
    simp only [Option.map_eq_some_iff, Prod.mk.injEq] at hf
    obtain ⟨fd, hfd, rfl, rfl, rfl⟩ := hf
    obtain ⟨u, hu, hrun⟩ := yBo (P := P) (t := fd.type) (us := vs.toList) (off := fd.offset) h1 h2 (by rw [hR.length]; exact hl) hne w
    simp only [Array.toArray_toList] at hrun
    refine wR (v := if xP P fd.type then .agg ((vs.toList.drop fd.offset).take (P.cellsOf fd.type)).toArray else u) (w' := w) (by simp [execOp, h, he, Instr.field, run_underlying hfs, hfd, asAgg, hrun]) (hK _ _ η ?_)
    rw [wW]
    exact hS.put (((hR.drop fd.offset).take (P.cellsOf fd.type)).ofCells _ hu) o.dst
  · cases hf
theorem bC (x : Operand) (i : Nat) (h : o.op = .extract x i) {ds : List D} (hx : ev X x = .tup ds) (d : D) (hi : ds[i]? = some d) : xD Γ P o X { val := d } := by
  intro E Y a w η hA hS K Q hK
  have hr := hS.ev x
  rw [hA.2.1 x (by simp [h, Op.operands]), hx] at hr
  obtain ⟨vs, he, hR⟩ := hr
  obtain ⟨u, hu, hd⟩ := hR.get hi
  have hu' : vs[i]? = some u := by simpa using hu
  refine wR (v := u) (w' := w) (by simp [execOp, h, he, Instr.extract, hu']) (hK _ _ η ?_)
  rw [wW]
  exact hS.put hd o.dst
mutual
def D.toT : D → Option T
  | .t x => some x
  | .agg ds => (D.toTs ds).map .agg
  | _ => none
def D.toTs : List D → Option (List T)
  | [] => some []
  | d :: ds => match D.toT d, D.toTs ds with
    | some x, some xs => some (x :: xs)
    | _, _ => none
end
mutual
theorem Rep.toT {w : World} {M : Nat → Prop} {η : Et} : ∀ {d : D} {u : Value} {x : T}, Rep w M η d u → d.toT = some x → RepT w M x u
  | .t x, u, y, h, hx => by simp only [D.toT, Option.some.injEq] at hx; subst hx; exact h
  | .agg ds, u, y, h, hx => by
    simp only [D.toT, Option.map_eq_some_iff] at hx
    obtain ⟨ts, hts, rfl⟩ := hx
    obtain ⟨vs, rfl, h1⟩ := h
    exact ⟨vs, rfl, Reps.toTs h1 hts⟩
  | .bad, u, y, h, hx => by simp [D.toT] at hx
  | .tup _, u, y, h, hx => by simp [D.toT] at hx
  | .ifc _ _, u, y, h, hx => by simp [D.toT] at hx
  | .ptr _ _, u, y, h, hx => by simp [D.toT] at hx
  | .rop _, u, y, h, hx => by simp [D.toT] at hx
  | .msl _ _ _ _, u, y, h, hx => by simp [D.toT] at hx
  | .fn _ _, u, y, h, hx => by simp [D.toT] at hx
theorem Reps.toTs {w : World} {M : Nat → Prop} {η : Et} : ∀ {ds : List D} {us : List Value} {xs : List T}, Reps w M η ds us → D.toTs ds = some xs → RepTs w M xs us
  | [], us, xs, h, hx => by
    simp only [D.toTs, Option.some.injEq] at hx
    subst hx
    exact h
  | d :: ds, us, xs, h, hx => by
    simp only [D.toTs] at hx
    split at hx
    · rename_i x xs' h1 h2
      cases hx
      obtain ⟨u, us', hu, h3, h4, h5⟩ := h
      exact ⟨u, us', hu, h3, Rep.toT h4 h1, Reps.toTs h5 h2⟩
    · cases hx
end
def yDU (t : TypeId) (d : D) : D := match d.toT with | some x => .t (.ifc t x) | none => .ifc t d
theorem yE9 {w : World} {M : Nat → Prop} {η : Et} {d : D} {u : Value} (h : Rep w M η d u) (t : TypeId) : Rep w M η (yDU t d) (.iface t u) := by
  unfold yDU
  split
  · rename_i x hx; exact ⟨u, rfl, Rep.toT h hx⟩
  · exact ⟨u, rfl, h⟩
def xI (P : Program) (t : TypeId) : Bool := match P.underlying t with | some (.interface _) => false | some _ => true | none => false
theorem nX (t : TypeId) (x : Operand) (h : o.op = .makeInterface t x) (hc : xI P t = true) : xD Γ P o X { val := yDU t (ev X x) } := by
  intro E Y a w η hA hS K Q hK
  have hr := hS.ev x
  rw [hA.2.1 x (by simp [h, Op.operands])] at hr
  have hrun : (Instr.makeInterface t (a.eval x)).run P w = .ok (.iface t (a.eval x)) w := by
    unfold xI at hc
    cases hu : P.underlying t with
    | none => simp [hu] at hc
    | some d => cases d <;> simp [hu] at hc <;> simp [Instr.makeInterface, run_underlying hu]
  refine wR (v := .iface t (a.eval x)) (w' := w) (by simp [execOp, h, hrun]) (hK _ _ η ?_)
  rw [wW]
  exact hS.put (yE9 hr t) o.dst
theorem RepsA.of_ops {w : World} {M : Nat → Prop} {η : Et} {a : Act} (ps : List Operand) (h : ∀ x ∈ ps, Rep w M η (ev X x) (a.eval x)) : RepsA w M η (ps.map (ev X)) (ps.map a.eval) := by
  induction ps with
  | nil => rfl
  | cons p ps ih => exact ⟨_, _, rfl, h _ (by simp), ih (fun x hx => h x (by simp [hx]))⟩
theorem eX (f : FuncId) (caps : Array Operand) (h : o.op = .makeFunc (.func f) #[] caps) : xD Γ P o X { val := .fn f (caps.toList.map (ev X)) } := by
  intro E Y a w η hA hS K Q hK
  have hr : RepsA w (Mx Y.hp η E.A) η (caps.toList.map (ev X)) (caps.toList.map a.eval) := RepsA.of_ops _ (fun x hx => by
    have := hS.ev x
    rwa [hA.2.1 x (by simp [h, Op.operands]; simpa using hx)] at this)
  refine wR (v := .func (.func f) #[] (caps.map a.eval)) (w' := w) (by simp [execOp, h, Instr.makeFunc]) (hK _ _ η ?_)
  rw [wW]
  exact hS.put (d := .fn f _) ⟨_, rfl, by simpa using hr⟩ o.dst
theorem qK (x : Operand) (h : o.op = .nilCheck x) (hx : (∃ m off, ev X x = .ptr m off) ∨ (∃ cs, ev X x = .rop cs) ∨ ∃ f caps, ev X x = .fn f caps) : xD Γ P o X { val := ev X x } := by
  intro E Y a w η hA hS K Q hK
  have hr := hS.ev x
  rw [hA.2.1 x (by simp [h, Op.operands])] at hr
  have hrun : (execOp a.eval o).run P w = .ok (.value (a.eval x)) w := by
    rcases hx with ⟨m, off, hx⟩ | ⟨cs, hx⟩ | ⟨f, caps, hx⟩
    · rw [hx] at hr
      obtain ⟨b, s, _, he⟩ := hr
      simp [execOp, h, he]
    · rw [hx] at hr
      obtain ⟨ad, he, _⟩ := hr
      simp [execOp, h, he]
    · rw [hx] at hr
      obtain ⟨vs, he, _⟩ := hr
      simp [execOp, h, he]
  refine wR hrun (hK _ _ η ?_)
  rw [wW]
  exact hS.put hr o.dst
theorem yBj (x : Operand) (t : TypeId) (h : o.op = .call { callee := .builtin .len, args := #[x], argTypes := #[t] }) (ht : P.underlying t = some (.slice (P.elem t))) {n : Nat} (hx : (∃ cs, ev X x = .t (.sl n cs)) ∨ ∃ m off sz, ev X x = .msl m off n sz) :
    xD Γ P o X { val := .t (.v (.int .i64 n)) } := by
  intro E Y a w η hA hS K Q hK
  have hr := hS.ev x
  rw [hA.2.1 x (by simp [h, Op.operands, Call.operands])] at hr
  have he : ∃ A c, a.eval x = .slice A n c := by
    rcases hx with ⟨cs, hx⟩ | ⟨m, off, sz, hx⟩
    · rw [hx] at hr; obtain ⟨A, c, he, _⟩ := hr; exact ⟨A, c, he⟩
    · rw [hx] at hr; obtain ⟨A, c, he, _⟩ := hr; exact ⟨A, c, he⟩
  obtain ⟨A, c, he⟩ := he
  refine wR (v := .int .i64 n) (w' := w) (by simp [execOp, h, resolve, invoke, builtin, he, run_len_slice w t o.type A n c ht, goInt]) (hK _ _ η ?_)
  rw [wW]
  exact hS.put (d := .t (.v _)) (by exact rfl) o.dst
theorem gW (t : TypeId) (x i : Operand) (h : o.op = .indexAddr t x i) (ht : P.underlying t = some (.slice (P.elem t))) (h2 : (P.info? (P.elem t)).isSome = true) {m : Nm} {off n sz : Nat} (hx : ev X x = .msl m off n sz) (hsz : P.cellsOf (P.elem t) = sz)
    {k : IntKind} {j : Int} (hi : ev X i = .t (.v (.int k j))) (h0 : 0 ≤ j) (hj : j < n) : xD Γ P o X { val := .ptr m (off + j.toNat * sz) } := by
  intro E Y a w η hA hS K Q hK
  have hr := hS.ev x
  rw [hA.2.1 x (by simp [h, Op.operands]), hx] at hr
  have hri := hS.ev i
  rw [hA.2.1 i (by simp [h, Op.operands]), hi] at hri
  have hei : a.eval i = .int k j := hri
  obtain ⟨A, c, he, hnc, hcm, hR⟩ := hr
  rcases hR with hR | ⟨b, s, hη, rfl, hR⟩
  · omega
  refine wR (v := .pointer (some ⟨b, off + j.toNat * sz, none⟩)) (w' := w) (by
    simp only [execOp, h, he, hei, Sem.run_bind, run_indexAt_slice w t _ n c k j ht]
    rw [if_pos ⟨h0, hj⟩]
    simp [run_sizeOf h2, hsz, sJ]) (hK _ _ η ?_)
  rw [wW]
  exact hS.put (d := .ptr m _) ⟨b, s, hη, rfl⟩ o.dst
theorem eY (t : TypeId) (x i : Operand) (h : o.op = .indexAddr t x i) (ht : P.underlying t = some (.slice (P.elem t))) (h2 : (P.info? (P.elem t)).isSome = true) {n : Nat} {cs : List T} (hx : ev X x = .t (.sl n cs))
    {k : IntKind} {j : Int} (hi : ev X i = .t (.v (.int k j))) (h0 : 0 ≤ j) (hj : j < n) (hl : 0 < cs.length) : xD Γ P o X { val := .rop (cs.drop (j.toNat * P.cellsOf (P.elem t))) } := by
  intro E Y a w η hA hS K Q hK
  have hr := hS.ev x
  rw [hA.2.1 x (by simp [h, Op.operands]), hx] at hr
  have hri := hS.ev i
  rw [hA.2.1 i (by simp [h, Op.operands]), hi] at hri
  have hei : a.eval i = .int k j := hri
  obtain ⟨A, c, he, hnc, hcm, hR⟩ := hr
  rcases hR with hR | ⟨ad, rfl, hna, hR⟩
  · simp [hR] at hl
  refine wR (v := .pointer (some (ad.add (j.toNat * P.cellsOf (P.elem t))))) (w' := w) (by
    simp only [execOp, h, he, hei, Sem.run_bind, run_indexAt_slice w t _ n c k j ht]
    rw [if_pos ⟨h0, hj⟩]
    simp [run_sizeOf h2]) (hK _ _ η ?_)
  rw [wW]
  exact hS.put (d := .rop _) ⟨_, rfl, .inr ⟨by rwa [add_block], hR.drop _⟩⟩ o.dst
theorem gX (t : TypeId) (x i : Operand) (h : o.op = .indexAddr t x i) (ht : P.underlying t = some (.array (P.arrayLen t) (P.elem t))) (h2 : (P.info? (P.elem t)).isSome = true) {m : Nm} {off : Nat} (hx : ev X x = .ptr m off)
    {k : IntKind} {j : Int} (hi : ev X i = .t (.v (.int k j))) (h0 : 0 ≤ j) (hj : j < P.arrayLen t) : xD Γ P o X { val := .ptr m (off + j.toNat * P.cellsOf (P.elem t)) } := by
  intro E Y a w η hA hS K Q hK
  have hr := hS.ev x
  rw [hA.2.1 x (by simp [h, Op.operands]), hx] at hr
  have hri := hS.ev i
  rw [hA.2.1 i (by simp [h, Op.operands]), hi] at hri
  have hei : a.eval i = .int k j := hri
  obtain ⟨b, s, hη, he⟩ := hr
  refine wR (v := .pointer (some ⟨b, off + j.toNat * P.cellsOf (P.elem t), none⟩)) (w' := w) (by
    simp only [execOp, h, he, hei, Sem.run_bind, run_indexAt_array w t _ k j ht]
    rw [if_pos ⟨h0, hj⟩]
    simp [run_sizeOf h2, sJ]) (hK _ _ η ?_)
  rw [wW]
  exact hS.put (d := .ptr m _) ⟨b, s, hη, rfl⟩ o.dst
theorem gU (t : TypeId) (x i : Operand) (h : o.op = .index t x i) {n e : Nat} (ht : P.underlying t = some (.array n e)) (h1 : (P.underlying e).isSome = true) (h2 : (P.info? e).isSome = true) {ds : List D} (hx : ev X x = .agg ds)
    {k : IntKind} {j : Int} (hi : ev X i = .t (.v (.int k j))) (h0 : 0 ≤ j) (hj : j < n) (hl : j.toNat * P.cellsOf e + P.cellsOf e ≤ ds.length) (hne : xP P e = false → P.cellsOf e = 1) : xD Γ P o X { val := D.ofCells (xP P e) ((ds.drop (j.toNat * P.cellsOf e)).take (P.cellsOf e)) } := by
  intro E Y a w η hA hS K Q hK
  have hr := hS.ev x
  rw [hA.2.1 x (by simp [h, Op.operands]), hx] at hr
  have hri := hS.ev i
  rw [hA.2.1 i (by simp [h, Op.operands]), hi] at hri
  have hei : a.eval i = .int k j := hri
  obtain ⟨vs, he, hR⟩ := hr
  obtain ⟨u, hu, hrun⟩ := yBo (P := P) (t := e) (us := vs.toList) (off := j.toNat * P.cellsOf e) h1 h2 (by rw [hR.length]; exact hl) hne w
  simp only [Array.toArray_toList] at hrun
  refine wR (v := if xP P e then .agg ((vs.toList.drop (j.toNat * P.cellsOf e)).take (P.cellsOf e)).toArray else u) (w' := w) (by
    simp only [execOp, h, he, hei, Instr.index, asIntOf, Sem.run_bind, Sem.run_pure, Result.andThen_ok, run_underlying ht]
    rw [if_pos ⟨h0, hj⟩]
    simp only [Sem.run_bind, run_sizeOf h2, Result.andThen_ok, hrun]) (hK _ _ η ?_)
  rw [wW]
  exact hS.put (((hR.drop _).take _).ofCells _ hu) o.dst
def bound (X : St) (d : Nat) : Option Operand → Option Nat
  | none => some d
  | some x => match ev X x with
    | .t (.v (.int _ n)) => if 0 ≤ n then some n.toNat else none
    | _ => none
theorem pX {Y : St} {E : Env} {a : Act} {w : World} {η : Et} (hS : Sim Γ E Y a w η) (lo hi : Option Operand) (hag : ∀ x, x ∈ lo.toList ++ hi.toList → ev Y x = ev X x) (isSl : Bool) {len cap l r : Nat} (hr : bound X len hi = some r) (hl : bound X 0 lo = some l) (h1 : l ≤ r) (h2 : r ≤ cap) :
    (Instr.sliceBounds isSl len cap (lo.map a.eval) (hi.map a.eval) none).run P w = .ok (l, r, cap) w := by
  have hsb : ∀ (x : Operand), ev Y x = ev X x → ∀ d v, bound X d (some x) = some v → ∀ y code, v ≤ y → (Instr.sliceBound (a.eval x) y code).run P w = .ok v w := by
    intro x hx d v hv y code hvy
    simp only [bound] at hv
    split at hv
    · rename_i k n hn
      split at hv
      · rename_i h0
        cases hv
        have he := hS.ev x
        rw [hx, hn] at he
        have he : a.eval x = .int k n := he
        rw [he]
        exact run_sliceBound w k n y code h0 (by omega)
      · cases hv
    · cases hv
  cases hi with
  | none =>
    cases hr
    cases lo with
    | none => cases hl; simp [Instr.sliceBounds]
    | some x =>
      have := hsb x (hag x (by simp)) 0 l hl
      simp [Instr.sliceBounds, this _ _ h1]
  | some y =>
    have hy := hsb y (hag y (by simp)) len r hr
    cases lo with
    | none => cases hl; simp [Instr.sliceBounds, hy _ _ h2]
    | some x =>
      have := hsb x (hag x (by simp)) 0 l hl
      simp [Instr.sliceBounds, this _ _ h1, hy _ _ h2]
theorem gS (t : TypeId) (x : Operand) (lo hi : Option Operand) (h : o.op = .slice t x lo hi none) (ht : P.underlying t = some (.slice (P.elem t))) (h2 : (P.info? (P.elem t)).isSome = true) {m : Nm} {off n sz : Nat} (hx : ev X x = .msl m off n sz) (hsz : P.cellsOf (P.elem t) = sz)
    {l r : Nat} (hr' : bound X n hi = some r) (hl' : bound X 0 lo = some l) (hlr : l ≤ r) (hrn : r ≤ n) : xD Γ P o X { val := .msl m (off + l * sz) (r - l) sz } := by
  intro E Y a w η hA hS K Q hK
  have hr := hS.ev x
  rw [hA.2.1 x (by simp [h, Op.operands]), hx] at hr
  obtain ⟨A, c, he, hnc, hcm, hR⟩ := hr
  have hb := pX (P := P) (X := X) hS lo hi (fun y hy => hA.2.1 y (by
    rw [h]
    simp only [Op.operands, Array.toList_append, Option.toArray]
    rcases List.mem_append.1 hy with hy | hy
    · cases lo <;> simp_all
    · cases hi <;> simp_all)) true hr' hl' hlr (Nat.le_trans hrn hnc)
  refine wR (v := .slice (if c = l then A else A.map (·.add (l * sz))) (r - l) (c - l)) (w' := w) (by
    simp only [execOp, h, he, Instr.sliceAt, Instr.slice, Sem.run_bind, run_underlying ht, Result.andThen_ok, Option.map_none, hb, run_sizeOf h2, hsz]
    rfl) (hK _ _ η ?_)
  rw [wW]
  refine hS.put (d := .msl m _ _ _) ⟨_, _, rfl, by omega, by omega, ?_⟩ o.dst
  by_cases e : c = l
  · exact .inl (by omega)
  · rcases hR with hR | ⟨b, s, hη, rfl, hR⟩
    · omega
    · refine .inr ⟨b, s, hη, ?_, ?_⟩
      · rw [if_neg e]
        simp [sJ]
      · rw [← hR, Nat.add_assoc, ← Nat.add_mul]
        congr 2
        omega
theorem eV (t : TypeId) (x : Operand) (lo hi : Option Operand) (h : o.op = .slice t x lo hi none) (ht : P.underlying t = some (.slice (P.elem t))) (h2 : (P.info? (P.elem t)).isSome = true) {n : Nat} {cs : List T} (hx : ev X x = .t (.sl n cs))
    {l r : Nat} (hr' : bound X n hi = some r) (hl' : bound X 0 lo = some l) (hlr : l ≤ r) (hrn : r ≤ n) (hlen : cs.length = n * P.cellsOf (P.elem t)) : xD Γ P o X { val := .t (.sl (r - l) ((cs.drop (l * P.cellsOf (P.elem t))).take ((r - l) * P.cellsOf (P.elem t)))) } := by
  intro E Y a w η hA hS K Q hK
  have hr := hS.ev x
  rw [hA.2.1 x (by simp [h, Op.operands]), hx] at hr
  obtain ⟨A, c, he, hnc, hcm, hR⟩ := hr
  have hb := pX (P := P) (X := X) hS lo hi (fun y hy => hA.2.1 y (by
    rw [h]
    simp only [Op.operands, Array.toList_append, Option.toArray]
    rcases List.mem_append.1 hy with hy | hy
    · cases lo <;> simp_all
    · cases hi <;> simp_all)) true hr' hl' hlr (Nat.le_trans hrn hnc)
  refine wR (v := .slice (if c = l then A else A.map (·.add (l * P.cellsOf (P.elem t)))) (r - l) (c - l)) (w' := w) (by
    simp only [execOp, h, he, Instr.sliceAt, Instr.slice, Sem.run_bind, run_underlying ht, Result.andThen_ok, Option.map_none, hb, run_sizeOf h2]
    rfl) (hK _ _ η ?_)
  rw [wW]
  refine hS.put (d := .t (.sl _ _)) ⟨_, _, rfl, by omega, by omega, ?_⟩ o.dst
  by_cases e : c = l
  · left
    have : r - l = 0 := by omega
    simp [this]
  · rcases hR with hR | ⟨ad, rfl, hna, hR⟩
    · left; simp [hR]
    · right
      refine ⟨ad.add (l * P.cellsOf (P.elem t)), by rw [if_neg e]; rfl, by rwa [add_block], (hR.drop _).take _⟩
end
end Go.Ot

namespace Go.Ot
@[simp] theorem lK (m : Nm) : ∀ cs : List T, D.hasL m (cs.map D.t) = false
  | [] => rfl
  | c :: cs => by simp [D.hasL, D.has, lK m cs]
@[simp] theorem hU (m : Nm) : ∀ ds es : List D, D.hasL m (ds ++ es) = (D.hasL m ds || D.hasL m es)
  | [], es => by simp [D.hasL]
  | d :: ds, es => by simp [D.hasL, hU m ds es, Bool.or_assoc]
structure Src (P : Program) (w : World) (size : Nat) (x : Value) (u : TypeId) (k : Nat) (news : List Value) : Prop where
  ty : (∃ d, P.underlying u = some (.slice d)) ∨ P.underlying u = some .string
  len : ∀ w', (Builtin.lenOf x).run P w' = .ok k w'
  cells : ∀ w', w'.heap = w.heap → (Builtin.firstCells size k x).run P w' = .ok news.toArray w'
  lenN : news.length = k * size
section
variable {P : Program}
theorem qY {w : World} (t u ty e : TypeId) (i : TypeInfo) (z : Value) (ht : P.underlying t = some (.slice e)) (hi : P.info? e = some i) (hz : i.zero = some z)
    (base : Option Addr) (n cap : Nat) (olds : List Value) (ho : ∀ w', w'.heap = w.heap → (Builtin.firstCells i.size n (.slice base n cap)).run P w' = .ok olds.toArray w')
    (x : Value) (k : Nat) (news : List Value) (hs : Src P w i.size x u k news) (hg : cap < n + k) (h63 : n + k ≤ maxLen) (hfit : (n + k) * i.bytes ≤ 140737488355328) :
    (Builtin.append_ #[t, u] ty #[.slice base n cap, x]).run P w =
      .ok (.slice (some ⟨w.heap.size, 0, none⟩) (n + k) (grownCap w (n + k) cap e)) (w.drew.alloc (.cells (olds.toArray ++ news.toArray ++ Builtin.zeroCells z.cells (grownCap w (n + k) cap e - (n + k))) e)) := by
  have hn : ¬ (n + k ≤ cap) := by omega
  have h63' : ¬ (9223372036854775807 < ((n : Int) + (k : Int))) := by simp only [maxLen] at h63; omega
  have h48' : ¬ (281474976710656 < Builtin.nextslicecap (n + k) cap * i.bytes) := by
    have := growslice_fits hg hfit
    omega
  have hf := hs.cells w.drew rfl
  have hfo := ho w.drew rfl
  rcases hs.ty with ⟨du, hu⟩ | hu <;> simp [Builtin.append_, run_underlying ht, run_underlying hu, sizeOf, typeInfo, zeroValue, hi, hz, hs.len, hn, h63', h48', Question.forced, hf, hfo, newRow, grownCap] <;> (congr 2; apply Array.ext'; simp [List.append_assoc])
theorem kJ {w : World} (t u ty e : TypeId) (i : TypeInfo) (ht : P.underlying t = some (.slice e)) (hi : P.info? e = some i)
    (b n cap : Nat) (cur : Array Value) (fr : Nat × Nat) (hb : w.heap[b]? = some (.cells cur e fr)) (hfr : ∀ j, j < cur.size → ¬ (fr.1 ≤ j ∧ j < fr.2))
    (x : Value) (k : Nat) (news : List Value) (hs : Src P w i.size x u k news) (h1 : ∀ v ∈ news, v.oneCell' = true) (hg : n + k ≤ cap) (hfit : n * i.size + news.length ≤ cur.size) :
    (Builtin.append_ #[t, u] ty #[.slice (some ⟨b, 0, none⟩) n cap, x]).run P w = .ok (.slice (some ⟨b, 0, none⟩) (n + k) cap) (w.setRow b (vK cur.toList (n * i.size) news).toArray) := by
  have hf := hs.cells w rfl
  have hst := vI P b (n * i.size) e fr news 0 cur w hb hfr (by omega) h1
  rw [Nat.add_zero] at hst
  rcases hs.ty with ⟨du, hu⟩ | hu <;> simp [Builtin.append_, run_underlying ht, run_underlying hu, sizeOf, typeInfo, hi, hs.len, hg, hf, sJ, hst]
theorem pG {w : World} (t u ty e : TypeId) (i : TypeInfo) (ht : P.underlying t = some (.slice e)) (hi : P.info? e = some i)
    (base : Option Addr) (n cap : Nat) (x : Value) (hs : Src P w i.size x u 0 []) (hg : n ≤ cap) :
    (Builtin.append_ #[t, u] ty #[.slice base n cap, x]).run P w = .ok (.slice base n cap) w := by
  have hf := hs.cells w rfl
  rcases hs.ty with ⟨du, hu⟩ | hu <;> cases base <;> simp [Builtin.append_, run_underlying ht, run_underlying hu, sizeOf, typeInfo, hi, hs.len, hg, hf, storeCells]
end
theorem Sim.newNil {Γ : Gl} {E : Env} {X : St} {a : Act} {w : World} {η : Et} (h : Sim Γ E X a w η) {m : Nm} (hm : X.hp m = none) (he : E.η0 m = none) (ty : TypeId) :
    Sim Γ E { X with hp := upd X.hp m (some ⟨[], ty, true, true⟩) } a w η := by
  have hηm : η m = none := by
    cases e : η m with
    | none => rfl
    | some q => exact absurd hm (h.ok.dom m q e)
  have hM : ∀ b, Mx (upd X.hp m (some ⟨[], ty, true, true⟩)) η E.A b → Mx X.hp η E.A b := by
    rintro b (⟨m', ob', s, h1, h2, h3⟩ | h1)
    · by_cases e : m' = m
      · subst e; rw [hηm] at h3; cases h3
      · rw [upd_ne e] at h1
        exact .inl ⟨m', ob', s, h1, h2, h3⟩
    · exact .inr h1
  have hk : lC w w (Mx X.hp η E.A) := fun _ _ _ => rfl
  refine { slots := RepsA.keeps hk (fun b _ => hM b) _ _ (fun _ _ _ h => h) h.slots, ok := ⟨?_, ?_, h.ok.inj, h.ok.noA⟩, defers := h.defers, size := h.size, keep := h.keep, mine := ?_, mine2 := h.mine2, pin := ?_, low := h.low, os := h.os, tape := h.tape, output := h.output, par := h.par, glob := h.glob, gle := h.gle, gM := h.gM }
  · intro m' ob' hm'
    by_cases e : m' = m
    · subst e
      simp at hm'
      subst hm'
      simp [ObRep, hηm]
    · exact (h.ok.objs m' ob' (by simpa [upd_ne e] using hm')).keeps hk (fun b _ => hM b) (fun _ _ _ => rfl) rfl (fun _ _ _ h => h)
  · intro m' q hq
    by_cases e : m' = m
    · subst e; simp
    · simpa [upd_ne e] using h.ok.dom m' q hq
  · intro m' ob' b s h1 h2 h3
    by_cases e : m' = m
    · subst e; rw [hηm] at h3; cases h3
    · exact h.mine m' ob' b s (by simpa [upd_ne e] using h1) h2 h3
  · intro m' ob' q h1 h2 h3
    by_cases e : m' = m
    · subst e; rw [he] at h3; cases h3
    · exact h.pin m' ob' q (by simpa [upd_ne e] using h1) h2 h3
section
variable {Γ : Gl} {P : Program} {o : Oper} {X : St}
def yJD (P : Program) (X : St) (size : Nat) (u : TypeId) (d : D) (k : Nat) (nd : List D) (F : List Nm) : Prop :=
  ∀ (Γ : Gl) (E : Env) (Y : St) (a : Act) (w : World) (η : Et), Sim Γ E Y a w η → (∀ m ∈ F, Y.hp m = X.hp m) → ∀ v, Rep w (Mx Y.hp η E.A) η d v → ∃ news, Src P w size v u k news ∧ Reps w (Mx Y.hp η E.A) η nd news
theorem vA {w : World} (size k : Nat) (A : Addr) (c : Nat) (news : List Value) (hl : news.length = k * size) (hc : ∀ j v, news[j]? = some v → w.cell? (A.add j) = some v) : ∀ w', w'.heap = w.heap → (Builtin.firstCells size k (.slice (some A) k c)).run P w' = .ok news.toArray w' := by
  intro w' hw
  exact run_firstCells_some w' size k A k c news hl (fun j v hv => by
    have := hc j v hv
    simpa [World.cell?, hw] using this)
theorem src_sl {size : Nat} {u : TypeId} {k : Nat} {cs : List T} (hu : ∃ e, P.underlying u = some (.slice e)) (hl : cs.length = k * size) : yJD P X size u (.t (.sl k cs)) k (cs.map .t) [] := by
  intro Γ E Y a w η hS _ v hv
  obtain ⟨A, c, rfl, hnc, hcm, hR⟩ := hv
  obtain ⟨e, hu⟩ := hu
  have nil : cs = [] → ∃ news, Src P w size (.slice A k c) u k news ∧ Reps w (Mx Y.hp η E.A) η (cs.map .t) news := by
    intro h0
    subst h0
    refine ⟨[], ⟨.inl ⟨_, hu⟩, fun w' => rfl, fun w' _ => ?_, by simpa using hl⟩, rfl⟩
    cases A with
    | none => simp [Builtin.firstCells]
    | some A => exact vA size k A c [] hl (by simp) w' (by assumption)
  rcases hR with hR | ⟨ad, rfl, hna, hR⟩
  · exact nil hR
  · have : ∀ n, n ≤ cs.length → ∃ us : List Value, us.length = n ∧ ∀ j (hj : j < n), ∃ x, us[j]? = some x ∧ w.cell? (ad.add j) = some x ∧ x.oneCell' = true ∧ ∃ hj' : j < cs.length, RepT w (Mx Y.hp η E.A) (cs[j]'hj') x := by
      intro n
      induction n with
      | zero => exact fun _ => ⟨[], rfl, fun j hj => by omega⟩
      | succ n ih =>
        intro hn
        obtain ⟨us, hl', hg⟩ := ih (by omega)
        obtain ⟨x, hu1, hu2, hu3⟩ := hR.get (i := n) (d := cs[n]'(by omega)) (List.getElem?_eq_getElem (by omega))
        refine ⟨us ++ [x], by simp [hl'], fun j hj => ?_⟩
        by_cases e : j = n
        · subst e
          exact ⟨x, by simp [← hl'], by simpa using hu1, hu2, by omega, hu3⟩
        · obtain ⟨u', h1, h2⟩ := hg j (by omega)
          exact ⟨u', by rw [List.getElem?_append_left (by omega)]; exact h1, h2⟩
    obtain ⟨us, hus, hget⟩ := this _ (Nat.le_refl _)
    refine ⟨us, ⟨.inl ⟨_, hu⟩, fun w' => rfl, vA size k ad c us (by rw [hus, hl]) (fun j v hv => ?_), by rw [hus, hl]⟩, ?_⟩
    · have hj : j < cs.length := by rw [← hus]; exact (List.getElem?_eq_some_iff.1 hv).1
      obtain ⟨x, h3, h4, _⟩ := hget j hj
      rw [h3] at hv
      cases hv
      exact h4
    · refine Reps.of_get (by simp [hus]) (fun j d hd => ?_)
      simp only [List.getElem?_map, Option.map_eq_some_iff] at hd
      obtain ⟨x, hx, rfl⟩ := hd
      obtain ⟨hj, rfl⟩ := List.getElem?_eq_some_iff.1 hx
      obtain ⟨y, h3, h4, h5, h6, h7⟩ := hget j hj
      exact ⟨y, h3, h5, h7⟩
theorem yH2 {size : Nat} {u : TypeId} {A : Option Addr} {c : Nat} (hu : ∃ e, P.underlying u = some (.slice e)) : yJD P X size u (.t (.v (.slice A 0 c))) 0 [] [] := by
  intro Γ E Y a w η hS _ v hv
  obtain ⟨e, hu⟩ := hu
  have hv : v = .slice A 0 c := hv
  subst hv
  refine ⟨[], ⟨.inl ⟨_, hu⟩, fun w' => rfl, fun w' _ => ?_, by simp⟩, rfl⟩
  cases A with
  | none => simp [Builtin.firstCells]
  | some A => exact vA size 0 A c [] (by simp) (by simp) w' (by assumption)
theorem yH3 {size : Nat} {u : TypeId} {m : Nm} {off k : Nat} {ob : Ob} (hu : ∃ e, P.underlying u = some (.slice e)) (hm : X.hp m = some ob) (hl : off + k * size ≤ ob.cells.length) : yJD P X size u (.msl m off k size) k ((ob.cells.drop off).take (k * size)) [m] := by
  intro Γ E Y a w η hS hF v hv
  obtain ⟨e, hu⟩ := hu
  obtain ⟨A, c, rfl, hnc, hcm, hR⟩ := hv
  have hm' : Y.hp m = some ob := (hF m (by simp)).trans hm
  rcases hR with hR | ⟨b, s, hη, rfl, hR⟩
  · have : k = 0 := by omega
    subst this
    refine ⟨[], ⟨.inl ⟨_, hu⟩, fun w' => rfl, fun w' _ => ?_, by simp⟩, by simp; rfl⟩
    cases A with
    | none => simp [Builtin.firstCells]
    | some A => exact vA (P := P) size 0 A c [] (by simp) (by simp) w' (by assumption)
  · obtain ⟨cur, fr, hb⟩ := hS.block hm' hη
    have hRR := (hb.reps.drop off).take (k * size)
    have hle := hb.le
    have hsz := hb.size
    refine ⟨_, ⟨.inl ⟨_, hu⟩, fun w' => rfl, vA size k _ c _ ?_ (fun j v hv => ?_), ?_⟩, hRR⟩
    · simp; omega
    · rw [sJ, cell_of_row w b (off + j) cur ob.ty fr hb.heap]
      rw [List.getElem?_take] at hv
      split at hv
      · rw [List.getElem?_drop, List.getElem?_take] at hv
        split at hv
        · simpa using hv
        · cases hv
      · cases hv
    · simp; omega
def yAe (s : ByteArray) : List T := s.data.toList.map fun b => .v (.int .u8 b.toNat)
theorem yH1 {u : TypeId} (hu : P.underlying u = some .string) (s : ByteArray) : yJD P X 1 u (.t (.v (.string s))) s.size ((yAe s).map .t) [] := by
  intro Γ E Y a w η hS _ v hv
  have hv : v = .string s := hv
  subst hv
  refine ⟨Go.Lib.strCells s, ⟨.inr hu, fun w' => rfl, fun w' _ => Go.Lib.run_firstCells_string w' 1 s, by simp [Go.Lib.strCells_length]⟩, ?_⟩
  refine Reps.of_get (by simp [yAe, Go.Lib.strCells]) (fun j d hd => ?_)
  simp only [yAe, List.map_map, List.getElem?_map, Option.map_eq_some_iff, Function.comp] at hd
  obtain ⟨b, hb, rfl⟩ := hd
  exact ⟨.int .u8 b.toNat, by simp [Go.Lib.strCells, hb], rfl, rfl⟩
theorem yE3 {X : St} {dst : Option Nat} {d : D} {F : List Nm} {b : Bool} {m : Nm} {ob : Option Ob} : X.app dst { val := d, F := F, bar := b, poi := [m], upd := [(m, ob)] } = { ({ X.poi m with hp := upd (X.poi m).hp m ob } : St) with sl := match dst with | some s => (X.poi m).sl.set s d | none => (X.poi m).sl } := by
  cases dst <;> rfl
theorem yB2 {w : World} {e : TypeId} {i : TypeInfo} {z : Value} (hzs : z.cells.size = i.size) (olds news : List Value) (n k cap : Nat) (hlo : olds.length = n * i.size) (hln : news.length = k * i.size) :
    (olds.toArray ++ news.toArray ++ Builtin.zeroCells z.cells (grownCap w (n + k) cap e - (n + k))).size = grownCap w (n + k) cap e * i.size := by
  have hge := grownCap_ge w (n + k) cap e
  simp only [Array.size_append, List.size_toArray, size_zeroCells, hzs, hlo, hln, ← Nat.add_mul]
  congr 1
  omega
theorem spec_append (s x : Operand) (t u : TypeId) (h : o.op = .call { callee := .builtin .append, args := #[s, x], argTypes := #[t, u] }) {e : TypeId} (ht : P.underlying t = some (.slice e)) {i : TypeInfo} {z : Value} (hi : P.info? e = some i) (hz : i.zero = some z) (hzs : z.cells.size = i.size)
    {m : Nm} {n sz : Nat} (hsz : i.size = sz) (hs : ev X s = .msl m 0 n sz) {ob : Ob} (hm : X.hp m = some ob) (ho : ob.own = true) (hr : ob.row = true) (hty : ob.ty = e) (hn : ob.cells.length = n * sz)
    {k : Nat} {nd : List D} {F : List Nm} (hx : yJD P X sz u (ev X x) k nd F) (hnd : D.hasL m ob.cells = false) (hnd' : D.hasL m nd = false) (h63 : n + k ≤ maxLen) (hb : (n + k) * i.bytes ≤ 140737488355328) :
    xD Γ P o X { val := .msl m 0 (n + k) sz, F := m :: F, bar := true, poi := [m], upd := [(m, some { ob with cells := ob.cells ++ nd })] } := by
  intro E Y a w η hA hS K Q hK
  have hs := (hA.2.1 s (by simp [h, Op.operands, Call.operands])).trans hs
  have hm := (hA.2.2 m (by simp)).trans hm
  subst hsz
  subst hty
  have hrs := hS.ev s
  rw [hs] at hrs
  obtain ⟨A, c, hes, hnc, hcm, hR⟩ := hrs
  obtain ⟨news, hsrc, hRn⟩ := hx Γ E Y a w η hS (fun m1 hm1 => hA.2.2 m1 (by simp [hm1])) (a.eval x) (by have h0 := hS.ev x; rwa [hA.2.1 x (by simp [h, Op.operands, Call.operands])] at h0)
  have hP := hS.poi m
  have hns : D.hasL m (Y.poi m).sl = false := D.hasL_poi m _
  have hno : ∀ m' ob', m' ≠ m → (Y.poi m).hp m' = some ob' → D.hasL m ob'.cells = false := by
    intro m' ob' _ h'
    simp only [St.poi, Option.map_eq_some_iff] at h'
    obtain ⟨ob'', _, rfl⟩ := h'
    exact D.hasL_poi m _
  have hmP : (Y.poi m).hp m = some (ob.poi m) := by simp [St.poi, hm]
  have hnc' : D.hasL m (ob.cells ++ nd) = false := by simp [hnd, hnd']
  have hMx : Mx (Y.poi m).hp η E.A = Mx Y.hp η E.A := yFb m
  have hlen : (ob.cells ++ nd).length = (n + k) * i.size := by
    have h1 := hRn.length
    have h2 := hsrc.lenN
    rw [List.length_append, hn, Nat.add_mul]
    omega
  have fin : ∀ (v' : Value) (w' : World) (row : Option Nat) (cur : Array Value) (fr : Nat × Nat) (b : Nat), (execOp a.eval o).run P w = .ok (.value v') w' → w.grownBy w' row → (∀ k', row = some k' → ∃ s', η m = some (k', s')) →
      (row = some b ∨ w.heap.size ≤ b) → w'.heap[b]? = some (.cells cur ob.ty fr) → (∀ j, j < cur.size → ¬ (fr.1 ≤ j ∧ j < fr.2)) → (ob.cells ++ nd).length ≤ cur.size → Reps w (Mx Y.hp η E.A) η (ob.cells ++ nd) (cur.toList.take (ob.cells ++ nd).length) →
      (∃ c', v' = .slice (some ⟨b, 0, none⟩) (n + k) c' ∧ n + k ≤ c' ∧ c' ≤ maxLen ∧ c' * i.size = cur.size) → o.wp P a w K Q := by
    intro v' w' row cur fr b hrun hg hrow hb' hh hfr hl hc ⟨c', hv, h1, h2, h3⟩
    refine wR hrun (hK _ _ (fH η m (some (b, cur.size))) ?_)
    rw [yE3]
    have := hP.grow hmP ho hr hns hno hg hrow (ob.cells ++ nd) hnc' cur fr b hb' hh hfr hl (by rw [hMx]; exact hc)
    refine Sim.put (X := { Y.poi m with hp := upd (Y.poi m).hp m _ }) this (d := .msl m 0 (n + k) i.size) ?_ o.dst
    exact ⟨_, c', hv, h1, h2, .inr ⟨b, cur.size, by simp, rfl, by omega⟩⟩
  have hexec : ∀ v' w', (Builtin.append_ #[t, u] o.type #[.slice A n c, a.eval x]).run P w = .ok v' w' → (execOp a.eval o).run P w = .ok (.value v') w' := by
    intro v' w' hrun
    simp [execOp, h, resolve, invoke, builtin, hes, hrun]
  have grown : ∀ (olds : List Value), Reps w (Mx Y.hp η E.A) η ob.cells olds → (∀ w', w'.heap = w.heap → (Builtin.firstCells i.size n (.slice A n c)).run P w' = .ok olds.toArray w') → c < n + k → o.wp P a w K Q := by
    intro olds hRo hfo hlt
    have hlo : olds.length = n * i.size := by rw [hRo.length, hn]
    have hrun := qY t u o.type ob.ty i z ht hi hz A n c olds hfo (a.eval x) k news hsrc hlt h63 hb
    have hsize := yB2 (w := w) (e := ob.ty) hzs olds news n k c hlo hsrc.lenN
    have hge := grownCap_ge w (n + k) c ob.ty
    refine fin _ _ none _ (0, 0) w.heap.size (hexec _ _ hrun) ⟨rfl, rfl, rfl, by simp, fun b' hb' _ => heap_alloc_old w.drew _ b' hb'⟩ (by simp) (.inr (Nat.le_refl _)) (by simpa using heap_alloc_new w.drew _) (by intro j _ ⟨_, h2⟩; omega) ?_ ?_ ⟨_, rfl, hge, grownCap_le_maxLen w (n + k) c ob.ty h63, hsize.symm⟩
    · rw [hsize, hlen]; exact Nat.mul_le_mul_right _ hge
    · have : (olds.toArray ++ news.toArray ++ Builtin.zeroCells z.cells (grownCap w (n + k) c ob.ty - (n + k))).toList.take (ob.cells ++ nd).length = olds ++ news := by
        simp only [Array.toList_append, List.append_assoc]
        rw [← List.append_assoc, show (ob.cells ++ nd).length = (olds ++ news).length from by simp [hRo.length, hRn.length]]
        exact List.take_left
      rw [this]
      exact hRo.append hRn
  rcases hR with hR | ⟨b, sb, hη, rfl, hR⟩
  · -- nothing is there yet
    have hn0 : n = 0 := by omega
    subst hn0
    have hc0 : ob.cells = [] := List.eq_nil_of_length_eq_zero (by simpa using hn)
    by_cases hk : k = 0
    · subst hk
      have hnews : news = [] := List.eq_nil_of_length_eq_zero (by simpa using hsrc.lenN)
      subst hnews
      have hnd0 : nd = [] := List.eq_nil_of_length_eq_zero (by simpa using hRn.length.symm)
      subst hnd0
      have hrun := pG t u o.type ob.ty i ht hi A 0 c (a.eval x) hsrc (Nat.zero_le _)
      refine wR (hexec _ _ hrun) (hK _ _ η ?_)
      rw [yE3]
      have hup : ({ Y.poi m with hp := upd (Y.poi m).hp m (some { ob with cells := ob.cells ++ [] }) } : St) = Y.poi m := by
        have : upd (Y.poi m).hp m (some { ob with cells := ob.cells ++ [] }) = (Y.poi m).hp := by
          funext m'
          by_cases e : m' = m
          · subst e
            rw [upd_same, hmP]
            simp [Ob.poi, hc0]
          · rw [upd_ne e]
        rw [this]
      rw [hup]
      exact Sim.put (X := Y.poi m) hP (d := .msl m 0 0 i.size) ⟨A, c, rfl, Nat.zero_le _, hcm, .inl hR⟩ o.dst
    · refine grown [] (by rw [hc0]; rfl) (fun w' hw => ?_) (by omega)
      cases A with
      | none => simp [Builtin.firstCells]
      | some A => exact vA i.size 0 A c [] (by simp) (by simp) w' hw
  · obtain ⟨cur, fr, hblk⟩ := hS.block hm hη
    have hsz := hblk.size
    have hle := hblk.le
    by_cases hroom : n + k ≤ c
    · have hfit : n * i.size + news.length ≤ cur.size := by
        rw [hsrc.lenN, ← Nat.add_mul, hsz, ← hR, Nat.zero_add]
        exact Nat.mul_le_mul_right _ hroom
      have hrun := kJ t u o.type ob.ty i ht hi b n c cur fr hblk.heap hblk.free (a.eval x) k news hsrc hRn.one hroom hfit
      refine fin _ _ (some b) (vK cur.toList (n * i.size) news).toArray fr b (hexec _ _ hrun) ⟨rfl, rfl, rfl, by simp, fun b' _ hne => setRow_other w b b' _ (fun e => hne (by rw [e]))⟩ (fun k' hk' => by cases hk'; exact ⟨sb, hη⟩) (.inl rfl) (setRow_heap w b cur _ _ _ hblk.heap) (by simpa [setAtV_length] using hblk.free) ?_ ?_ ⟨c, rfl, hroom, hcm, ?_⟩
      · simp only [List.size_toArray, setAtV_length, Array.length_toList, hlen, hsz, ← hR, Nat.zero_add]
        exact Nat.mul_le_mul_right _ hroom
      · have key : ∀ (us : List Value) (cs : List Value) (off : Nat), off + us.length ≤ cs.length → (vK cs off us).take (off + us.length) = cs.take off ++ us := by
          intro us
          induction us with
          | nil => intro cs off _; simp [vK]
          | cons v us ih =>
            intro cs off hl
            simp only [vK, List.length_cons]
            rw [show off + (us.length + 1) = off + 1 + us.length from by omega, ih _ _ (by simp at hl ⊢; omega)]
            have hlt : off < cs.length := by simp at hl; omega
            rw [List.take_succ_eq_append_getElem (by simpa using hlt)]
            simp [List.take_set_of_le]
        have h1 : (ob.cells ++ nd).length = n * i.size + news.length := by rw [List.length_append, hn, hRn.length]
        rw [List.toList_toArray, h1, key _ _ _ (by simpa using hfit)]
        refine Reps.append ?_ hRn
        have := hblk.reps
        rwa [hn] at this
      · simp only [List.size_toArray, setAtV_length, Array.length_toList, hsz]
        omega
    · refine grown (cur.toList.take (n * i.size)) (by have := hblk.reps; rwa [hn] at this) (fun w' hw => ?_) (by omega)
      refine vA i.size n _ c _ ?_ (fun j v hv => ?_) w' hw
      · simp; omega
      · rw [sJ, cell_of_row w b (0 + j) cur ob.ty fr hblk.heap]
        rw [List.getElem?_take] at hv
        split at hv
        · simpa using hv
        · cases hv
theorem jL (s x : Operand) (t u : TypeId) (h : o.op = .call { callee := .builtin .append, args := #[s, x], argTypes := #[t, u] }) {e : TypeId} (ht : P.underlying t = some (.slice e)) {i : TypeInfo} {z : Value} (hi : P.info? e = some i) (hz : i.zero = some z) (hzs : z.cells.size = i.size)
    {sz : Nat} (hsz : i.size = sz) (hs : ev X s = .t (.v (.slice none 0 0))) (rid j l : Nat) (hm : X.hp (.r rid j l) = none)
    {k : Nat} {nd : List D} {F : List Nm} (hx : yJD P X sz u (ev X x) k nd F) (h63 : k ≤ maxLen) (hb : k * i.bytes ≤ 140737488355328) :
    xD Γ P o X { val := .msl (.r rid j l) 0 k sz, F := .r rid j l :: F, upd := [(.r rid j l, some ⟨nd, e, true, true⟩)] } := by
  intro E Y a w η hA hS K Q hK
  subst hsz
  have hm' : Y.hp (.r rid j l) = none := (hA.2.2 _ (by simp)).trans hm
  have hes := hS.ev s
  rw [hA.2.1 s (by simp [h, Op.operands, Call.operands]), hs] at hes
  have hes : a.eval s = .slice none 0 0 := hes
  have hrx := hS.ev x
  rw [hA.2.1 x (by simp [h, Op.operands, Call.operands])] at hrx
  obtain ⟨news, hsrc, hRn⟩ := hx Γ E Y a w η hS (fun m hmF => hA.2.2 m (by simp [hmF])) (a.eval x) hrx
  have hexec : ∀ v' w', (Builtin.append_ #[t, u] o.type #[.slice none 0 0, a.eval x]).run P w = .ok v' w' → (execOp a.eval o).run P w = .ok (.value v') w' := by
    intro v' w' hrun
    simp [execOp, h, resolve, invoke, builtin, hes, hrun]
  by_cases hk : k = 0
  · subst hk
    have hnews : news = [] := List.eq_nil_of_length_eq_zero (by simpa using hsrc.lenN)
    subst hnews
    have hnd0 : nd = [] := List.eq_nil_of_length_eq_zero (by simpa using hRn.length.symm)
    subst hnd0
    have hrun := pG t u o.type e i ht hi none 0 0 (a.eval x) hsrc (Nat.zero_le _)
    refine wR (hexec _ _ hrun) (hK _ _ η ?_)
    rw [uN]
    exact Sim.put (X := { Y with hp := upd Y.hp _ _ }) (hS.newNil hm' (hS.not_par _ _ _) e) (d := .msl _ 0 0 i.size) ⟨none, 0, rfl, Nat.le_refl _, Nat.zero_le _, .inl rfl⟩ o.dst
  · have hrun := qY t u o.type e i z ht hi hz none 0 0 [] (fun w' _ => by simp [Builtin.firstCells]) (a.eval x) k news hsrc (by omega) (by simpa using h63) (by simpa using hb)
    simp only [Nat.zero_add] at hrun
    have hsize := yB2 (w := w) (e := e) hzs [] news 0 k 0 (by simp) hsrc.lenN
    simp only [Nat.zero_add] at hsize
    have hge := grownCap_ge w k 0 e
    generalize hcur : ((([] : List Value).toArray ++ news.toArray ++ Builtin.zeroCells z.cells (grownCap w k 0 e - k)) : Array Value) = cur at hrun hsize
    have hl : nd.length = k * i.size := by rw [← hRn.length, hsrc.lenN]
    have htake : cur.toList.take nd.length = news := by
      rw [← hcur, show nd.length = news.length from hRn.length.symm]
      simp
    have hS' : Sim Γ E Y a w.drew η := hS.world rfl rfl rfl rfl
    have hRn' : Reps w.drew (Mx Y.hp η E.A) η nd news := Reps.keeps (w := w) (w' := w.drew) (M := Mx Y.hp η E.A) (fun _ _ _ => rfl) (fun _ _ h => h) _ _ (fun _ _ _ h => h) hRn
    have := hS'.new hm' (hS.not_par rid j l) ⟨nd, e, true, true⟩ cur (0, 0) (by intro j _ ⟨_, h2⟩; omega) rfl (by rw [hl, hsize]; exact Nat.mul_le_mul_right _ hge) (by intro h; cases h) (by rw [htake]; exact hRn')
    refine wR (hexec _ _ hrun) (hK _ _ (fH η (.r rid j l) (some (w.heap.size, cur.size))) ?_)
    rw [uN]
    refine Sim.put (X := { Y with hp := upd Y.hp _ _ }) this (d := .msl _ 0 k i.size) ⟨_, _, rfl, hge, grownCap_le_maxLen w k 0 e h63, .inr ⟨w.heap.size, cur.size, by simp, rfl, by omega⟩⟩ o.dst
end
end Go.Ot
