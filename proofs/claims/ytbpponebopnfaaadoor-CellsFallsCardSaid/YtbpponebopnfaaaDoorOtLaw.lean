/- From a law's contract to its row. -/
import Derived.Test.YtbpponebopnfaaaDoorOtRead
import Derived.WalkKit
import Derived.ProofKit
import Derived.OpenShut
import Derived.ShutString
import Derived.ChangeOld
import Derived.Below
set_option linter.unusedVariables false
set_option linter.unusedSimpArgs false
namespace Go.Ot
open Go.ChangeShapes Go.WideShapes Go.ChangeAt Go.RowKit

def Γ0 : Gl := ⟨fun _ => True, 0, fun _ _ _ _ => trivial⟩
def no : Nat → Prop := fun _ => False
def none0 : Et := fun _ => none

theorem Mx_none (b : Nat) : Mx (HpOf []) none0 no b ↔ False := by
  constructor
  · rintro (⟨m, ob, s, h, _⟩ | h)
    · rw [HpOf_nil'] at h; cases h
    · exact h
  · exact False.elim
theorem rep_t {w : World} {x : T} {u : Value} (h : RepT w no x u) : Rep w (Mx (HpOf []) none0 no) none0 (.t x) u :=
  RepT.keeps (fun _ _ _ => rfl) (fun b _ hb => (Mx_none b).1 hb) x u h
theorem rep_agg {w : World} {ts : List T} {vs : Array Value} (h : RepTs w no ts vs.toList) : Rep w (Mx (HpOf []) none0 no) none0 (.agg (ts.map .t)) (.agg vs) :=
  ⟨vs, rfl, Reps_T.2 (RepTs.keeps (fun _ _ _ => rfl) (fun b _ hb => (Mx_none b).1 hb) ts _ h)⟩

theorem law_walk {P : Program} {f : FuncId} {args : List D} {vals : List Value} {w : World} (hG : Good Γ0 P f args [] (.t (.v (.bool true))) [] []) (h : RepsA w (Mx (HpOf []) none0 no) none0 args vals) :
    Calls P f vals.toArray w fun e w' => e = .returned (.bool true) ∧ Below w.heap.size w w' := by
  have hok : HpOk w no (HpOf []) none0 := by
    rw [HpOf_nil']
    exact ⟨(fun m ob hm => nomatch hm), (fun m q hq => nomatch hq), (fun m m' b s s' hm => nomatch hm), (fun m b s hm => nomatch hm)⟩
  have hmut : ∀ b, Mut (HpOf []) none0 b → Γ0.gs ≤ b := fun b _ => Nat.zero_le _
  refine (hG w no none0 vals trivial (Nat.zero_le _) (fun b hb => hb.elim) hok (fun m q hq => nomatch hq) hmut h).mono (fun e w' he => ?_)
  obtain ⟨v, η', rfl, h1, _, h2, h3, _, _, _, h4, h5, h6⟩ := he
  have h1 : v = .bool true := h1
  subst h1
  exact ⟨rfl, h4, h5, h6, h2, fun k hk => h3 k hk (fun ⟨m, ob, s, h, _⟩ => by rw [HpOf_nil'] at h; cases h)⟩

section
variable {H : Type} {enc : TypeId × Value → H} {P : Program} {W : World} {r : Reach} {base : Nat} {spare : Nat → Bool} {held : Bool} {t : TypeId} {v : Value} {d : DataW H} {p : List MemPlace} {m : Nat}
theorem arg_slice {e : TypeId} (ht : P.underlying t = some (.slice e)) (hv : Value.okWide P W r base t v) (h : DataW.Trod enc P W 0 spare held t v d p) (hok : okT P m t = true) : ∃ x, RepT W no x v ∧ Fit P m t [x] := by
  obtain ⟨a, len, cap, rfl⟩ := okWide_slice ht hv
  obtain ⟨fuel, hf⟩ := h
  obtain ⟨ts, h1, h2⟩ := read m hok hf
  have hc : (Value.slice a len cap).cells.toList = [.slice a len cap] := by simp [Value.cells]
  rw [hc] at h1
  match ts, h1 with
  | [x], ⟨u, us, h3, _, h4, _⟩ => cases h3; exact ⟨x, h4, h2⟩
  | x :: y :: ts, ⟨u, us, h3, _, _, u', us', h4, _⟩ => cases h3; cases h4
theorem arg_int {k : IntKind} (ht : P.underlying t = some (.int k)) (hv : Value.okWide P W r base t v) (h : DataW.Trod enc P W 0 spare held t v d p) : ∃ n, v = .int k n ∧ (Lit.int k n).wf = true := by
  obtain ⟨n, rfl⟩ := okWide_int ht hv
  obtain ⟨fuel, hf⟩ := h
  obtain ⟨n', h1, _, h2⟩ := DataW.trod_int ht hf
  have hc : (Value.int k n).cells.toList = [.int k n] := by simp [Value.cells]
  rw [hc] at h1
  cases h1
  exact ⟨n, rfl, h2⟩
theorem arg_bool (ht : P.underlying t = some .bool) (hv : Value.okWide P W r base t v) : ∃ b, v = .bool b := okWide_bool ht hv
theorem arg_string (ht : P.underlying t = some .string) (hv : Value.okWide P W r base t v) (h : DataW.Trod enc P W 0 spare held t v d p) : ∃ l : List UInt8, v = .string (S l) ∧ l.length ≤ maxLen := by
  obtain ⟨s, rfl⟩ := okWide_string ht hv
  obtain ⟨fuel, hf⟩ := h
  obtain ⟨s', h1, _, h2⟩ := DataW.trod_string ht hf
  have hc : (Value.string s).cells.toList = [.string s] := by simp [Value.cells]
  rw [hc] at h1
  cases h1
  exact ⟨s.data.toList, rfl, h2⟩
theorem arg_struct {fs : Array Field} (ht : P.underlying t = some (.struct fs)) (hv : Value.okWide P W r base t v) (h : DataW.Trod enc P W 0 spare held t v d p) (hok : okT P m t = true) : ∃ ts vs, v = .agg vs ∧ RepTs W no ts vs.toList ∧ Fit P m t ts := by
  obtain ⟨cs, rfl, _⟩ := okWide_struct ht hv
  obtain ⟨fuel, hf⟩ := h
  obtain ⟨ts, h1, h2⟩ := read m hok hf
  exact ⟨ts, cs, rfl, by
    have : (Value.agg cs).cells.toList = cs.toList := by simp [Value.cells]
    rw [this] at h1
    exact h1, h2⟩
end
/-! ### forms -/
theorem fit_list {P : Program} {α : Type} {f : α → T} {m : Nat} {t e : TypeId} {ts : List T} (ht : P.underlying t = some (.slice e)) (hc : P.cellsOf e = 1) (hel : ∀ c, Fit P m e [c] → ∃ a, c = f a) (h : Fit P (m + 1) t ts) : ∃ l : List α, ts = [.sl l.length (l.map f)] ∧ l.length ≤ maxLen := by
  unfold Fit at h
  rw [ht] at h
  obtain ⟨len, es, rfl, h1, h2, h3⟩ := h
  rw [hc, Nat.mul_one] at h2
  have : ∀ xs : List T, (∀ (i : Nat) (d : T), xs[i]? = some d → ∃ a, d = f a) → ∃ l : List α, xs = l.map f := by
    intro xs
    induction xs with
    | nil => exact fun _ => ⟨[], rfl⟩
    | cons x xs ih =>
      intro hx
      obtain ⟨a, rfl⟩ := hx 0 x (by simp)
      obtain ⟨l, rfl⟩ := ih (fun i d hd => hx (i + 1) d (by simpa using hd))
      exact ⟨a :: l, rfl⟩
  obtain ⟨l, rfl⟩ := this es (fun i d hd => by
    have hi := (List.getElem?_eq_some_iff.1 hd).1
    have := h3 i (by omega)
    rw [hc, Nat.mul_one] at this
    have e1 : (es.drop i).take 1 = [d] := by
      rw [List.drop_eq_getElem_cons hi, (List.getElem?_eq_some_iff.1 hd).2]
      rfl
    rw [e1] at this
    exact hel d this)
  simp at h2
  subst h2
  exact ⟨l, rfl, h1⟩
theorem fit_string {P : Program} {m : Nat} {t : TypeId} {c : T} (ht : P.underlying t = some .string) (h : Fit P (m + 1) t [c]) : ∃ l : List UInt8, c = .v (.string (S l)) := by
  unfold Fit at h
  rw [ht] at h
  obtain ⟨s, h1, _⟩ := h
  cases h1
  exact ⟨s.data.toList, rfl⟩
theorem fit_int {P : Program} {m : Nat} {t : TypeId} {k : IntKind} {ts : List T} (ht : P.underlying t = some (.int k)) (h : Fit P (m + 1) t ts) : ∃ n, ts = [.v (.int k n)] ∧ (Lit.int k n).wf = true := by
  unfold Fit at h
  rw [ht] at h
  exact h
theorem fit_strings {P : Program} {m : Nat} {t e : TypeId} {ts : List T} (ht : P.underlying t = some (.slice e)) (hc : P.cellsOf e = 1) (he : P.underlying e = some .string) (h : Fit P (m + 2) t ts) : ∃ l : List (List UInt8), ts = [.sl l.length (l.map fun b => .v (.string (S b)))] ∧ l.length ≤ maxLen :=
  fit_list ht hc (fun c hc' => fit_string he hc') h
theorem fit_struct {P : Program} {m : Nat} {t : TypeId} {fs : Array Field} {ts : List T} (ht : P.underlying t = some (.struct fs)) (h : Fit P (m + 1) t ts) : ts.length = P.cellsOf t ∧ ∀ f ∈ fs.toList, Fit P m f.type ((ts.drop f.offset).take (P.cellsOf f.type)) := by
  unfold Fit at h
  rw [ht] at h
  exact h
theorem wf_i64 {n : Int} (h : (Lit.int .i64 n).wf = true) : -9223372036854775808 ≤ n ∧ n ≤ 9223372036854775807 := by
  simpa [Lit.wf, IntKind.min, IntKind.max, IntKind.signed, IntKind.bits] using h
end Go.Ot
