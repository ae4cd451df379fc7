/- What one operation does to an abstract state. -/
import Derived.Test.YtbpponebopnfaaaDoorOtSim
import Derived.Laws.Entries
import Derived.Laws.Slices
import Derived.Laws.Strings
import Derived.Laws.Small
import Derived.Lib.ConvBytes
import Derived.Lib.AppendStr
import Derived.Laws.BytesArg
set_option linter.unusedVariables false
set_option linter.unusedSimpArgs false
namespace Go.Ot

/-- What an operation leaves: its value, objects made, changed or gone, objects looked at, names that nobody else may use any more. -/
structure Rec where
  val : D
  upd : List (Nm × Option Ob) := []
  F : List Nm := []
  poi : List Nm := []
  bar : Bool := false

def updL (h : Nm → Option Ob) : List (Nm × Option Ob) → (Nm → Option Ob)
  | [] => h
  | (m, o) :: r => updL (upd h m o) r
def putSl (sl : List D) (dst : Option Nat) (d : D) : List D := match dst with | some s => sl.set s d | none => sl
def St.poiL (X : St) : List Nm → St
  | [] => X
  | m :: r => (X.poi m).poiL r
def St.app (X : St) (dst : Option Nat) (r : Rec) : St := { sl := putSl (X.poiL r.poi).sl dst r.val, hp := updL (X.poiL r.poi).hp r.upd }

/-- A constant. -/
def evc : Value → D
  | .agg vs => if vs.toList.all Value.oneCell' then .agg (vs.toList.map fun x => .t (.v x)) else .bad
  | .func (.func f) first caps => if first.isEmpty && caps.isEmpty then .fn f [] else .bad
  | x => .t (.v x)
def ev (X : St) : Operand → D
  | .tmp t => X.sl.getD t .bad
  | .const v => evc v
  | .global g => .t (.v (.pointer (some ⟨g, 0, none⟩)))
  | .func f => .fn f []

theorem Rep_evc {w : World} {M : Nat → Prop} {η : Et} (v : Value) : Rep w M η (evc v) v := by
  unfold evc
  split
  · rename_i vs
    split
    · rename_i h
      refine ⟨vs, rfl, Reps.of_get (by simp) (fun j d hd => ?_)⟩
      simp only [List.getElem?_map, Option.map_eq_some_iff] at hd
      obtain ⟨x, hx, rfl⟩ := hd
      exact ⟨x, hx, List.all_eq_true.1 h x (List.mem_of_getElem? hx), rfl⟩
    · trivial
  · rename_i f first caps
    split
    · rename_i h
      simp only [Bool.and_eq_true, Array.isEmpty_iff] at h
      obtain ⟨rfl, rfl⟩ := h
      exact ⟨#[], rfl, rfl⟩
    · trivial
  · rfl

theorem Sim.ev {Γ : Gl} {E : Env} {X : St} {a : Act} {w : World} {η : Et} (h : Sim Γ E X a w η) (x : Operand) : Rep w (Mx X.hp η E.A) η (ev X x) (a.eval x) := by
  cases x with
  | tmp t =>
    simp only [Ot.ev, Act.eval]
    cases e : X.sl[t]? with
    | none => simp [List.getD_eq_getElem?_getD, e]; trivial
    | some d =>
      obtain ⟨u, hu, hr⟩ := h.slots.get e
      have hu' : a.tmps[t]? = some u := by simpa using hu
      simpa [List.getD_eq_getElem?_getD, e, Array.getD_eq_getD_getElem?, hu'] using hr
  | const v => exact Rep_evc v
  | global g => exact rfl
  | func f => exact ⟨#[], rfl, rfl⟩

def Agree (X Y : St) (o : Oper) (r : Rec) : Prop :=
  (r.bar = true → Y = X) ∧ (∀ x ∈ o.op.operands.toList, ev Y x = ev X x) ∧ (∀ m ∈ r.F, Y.hp m = X.hp m)
theorem Agree.refl (X : St) (o : Oper) (r : Rec) : Agree X X o r := ⟨fun _ => rfl, fun _ _ => rfl, fun _ _ => rfl⟩

/-- Whatever else there is: the operation does what the record says. -/
def OpSpec (Γ : Gl) (P : Program) (o : Oper) (X : St) (r : Rec) : Prop :=
  ∀ (E : Env) (Y : St) (a : Act) (w : World) (η : Et), Agree X Y o r → Sim Γ E Y a w η → ∀ (K : Act → World → Prop) (Q : Exit → Act → World → Prop),
    (∀ a' w' η', Sim Γ E (Y.app o.dst r) a' w' η' → K a' w') → o.wp P a w K Q

theorem wp_val {P : Program} {o : Oper} {a : Act} {w w' : World} {v : Value} {K : Act → World → Prop} {Q : Exit → Act → World → Prop}
    (h : (execOp a.eval o).run P w = .ok (.value v) w') (hk : K (a.put o.dst v) w') : o.wp P a w K Q := by
  unfold Oper.wp
  rw [h]
  exact hk
theorem wp_skip' {P : Program} {o : Oper} {a : Act} {w w' : World} {K : Act → World → Prop} {Q : Exit → Act → World → Prop}
    (h : (execOp a.eval o).run P w = .ok .skip w') (hk : K (a.put o.dst undef) w') : o.wp P a w K Q := by
  unfold Oper.wp
  rw [h]
  exact hk

theorem app_val {X : St} {dst : Option Nat} {d : D} {F : List Nm} {b : Bool} : X.app dst { val := d, F := F, bar := b } = { X with sl := match dst with | some s => X.sl.set s d | none => X.sl } := by
  cases dst <;> rfl

/-- The value that a plain D is. -/
def D.atom : D → Value
  | .t (.v x) => x
  | _ => undef
def D.isAtom : D → Bool
  | .t (.v _) => true
  | _ => false
theorem D.of_isAtom {d : D} (h : d.isAtom = true) : d = .t (.v d.atom) := by
  unfold D.isAtom at h
  split at h
  · rfl
  · cases h

section
variable {Γ : Gl} {P : Program} {o : Oper} {X : St}

theorem spec_move (x : Operand) (h : o.op = .move x ∨ o.op = .assign x) : OpSpec Γ P o X { val := ev X x } := by
  intro E Y a w η hA hS K Q hK
  have hx : ev Y x = ev X x := hA.2.1 x (by rcases h with h | h <;> simp [h, Op.operands])
  refine wp_val (v := a.eval x) (w' := w) (by rcases h with h | h <;> simp [execOp, h]) (hK _ _ η ?_)
  rw [app_val, ← hx]
  exact hS.put (hS.ev x) o.dst

theorem spec_pick (c x y : Operand) (h : o.op = .pick c x y) (b : Bool) (hc : ev X c = .t (.v (.bool b))) : OpSpec Γ P o X { val := if b then ev X x else ev X y } := by
  intro E Y a w η hA hS K Q hK
  have hx : ev Y x = ev X x := hA.2.1 x (by simp [h, Op.operands])
  have hy : ev Y y = ev X y := hA.2.1 y (by simp [h, Op.operands])
  have hc' : a.eval c = .bool b := by
    have h1 := hS.ev c
    rw [hA.2.1 c (by simp [h, Op.operands]), hc] at h1
    exact h1
  refine wp_val (v := if b then a.eval x else a.eval y) (w' := w) (by simp [execOp, h, hc', asBool]) (hK _ _ η ?_)
  rw [app_val, ← hx, ← hy]
  cases b
  · exact hS.put (hS.ev y) o.dst
  · exact hS.put (hS.ev x) o.dst

/-- An operation on plain values that looks at no memory. -/
theorem spec_pure (hs : ∀ cs b, o.op ≠ .select cs b) (hρ : ∀ x ∈ o.op.operands.toList, (ev X x).isAtom = true) (v : Value)
    (h : ∀ w, (execOp (fun x => (ev X x).atom) o).run P w = .ok (.value v) w) : OpSpec Γ P o X { val := .t (.v v) } := by
  intro E Y a w η hA hS K Q hK
  have he : execOp a.eval o = execOp (fun x => (ev X x).atom) o := execOp_congr o hs (fun x hx => by
    have hx' : x ∈ o.op.operands.toList := by simpa using hx
    have h1 := hS.ev x
    rw [hA.2.1 x hx', D.of_isAtom (hρ x hx')] at h1
    exact h1)
  refine wp_val (v := v) (w' := w) (by rw [he]; exact h w) (hK _ _ η ?_)
  rw [app_val]
  exact hS.put (by exact rfl) o.dst
end
end Go.Ot
