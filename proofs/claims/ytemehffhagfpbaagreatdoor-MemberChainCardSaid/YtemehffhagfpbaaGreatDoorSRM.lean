/- A record as an argument; records as arguments. -/
import Derived.Test.YtemehffhagfpbaaGreatDoorSME2
import Derived.Test.YtemehffhagfpbaaGreatDoorOtF
set_option linter.unusedVariables false
set_option linter.unusedSimpArgs false
namespace Go.Proofs.Tryz
open Go Go.Ot Go.ChangeShapes Go.WideShapes Go.ChangeAt Go.RowKit
theorem fit_fields {P : Program} {m n : Nat} {t : TypeId} {ts : List T} {fs : Array Field} (ht : P.underlying t = some (.struct fs)) (hc : P.cellsOf t = n) (h : Fit P (m + 1) t ts) : ts.length = n ∧ ∀ (i : Nat) (f : Field), fs[i]? = some f → Fit P m f.type ((ts.drop f.offset).take (P.cellsOf f.type)) := by
  unfold Fit at h
  rw [ht] at h
  exact ⟨h.1.trans hc, fun i f hf => h.2 f (Array.mem_def.1 (Array.mem_of_getElem? hf))⟩
theorem fit_i {P : Program} {m : Nat} {t : TypeId} {c : T} (ht : P.underlying t = some (.int .i64)) (h : Fit P (m + 1) t [c]) : ∃ n : Int, c = num n ∧ -9223372036854775808 ≤ n ∧ n ≤ 9223372036854775807 := by
  obtain ⟨n, hn, hw⟩ := fit_int ht h
  cases hn
  exact ⟨n, rfl, wf_i64 hw⟩
theorem fit_s {P : Program} {m : Nat} {t : TypeId} {c : T} (ht : P.underlying t = some .string) (h : Fit P (m + 1) t [c]) : ∃ s : List UInt8, c = txt s := fit_string ht h
/-- A wrap's cells. -/
theorem fit_wp {P : Program} {m : Nat} {t : TypeId} {ts : List T} {fs : Array Field} {f0 f1 : Field} (ht : P.underlying t = some (.struct fs)) (hc : P.cellsOf t = 2)
    (e0 : fs[0]? = some f0) (o0 : f0.offset = 0) (c0 : P.cellsOf f0.type = 1) (t0 : P.underlying f0.type = some (.int .i64)) (e1 : fs[1]? = some f1) (o1 : f1.offset = 1) (c1 : P.cellsOf f1.type = 1) (t1 : P.underlying f1.type = some .string)
    (h : Fit P (m + 2) t ts) : ∃ w : Wp, ts = wpT w := by
  obtain ⟨hl, hf⟩ := fit_fields ht hc h
  match ts, hl with
  | [a, b], _ =>
    have h0 := hf 0 f0 e0
    have h1 := hf 1 f1 e1
    rw [o0, c0] at h0
    rw [o1, c1] at h1
    obtain ⟨x, rfl, _⟩ := fit_i t0 h0
    obtain ⟨y, rfl⟩ := fit_s t1 h1
    exact ⟨⟨x, y⟩, rfl⟩
/-- A record's cells. -/
theorem fit_rc {P : Program} {m : Nat} {t e : TypeId} {ts : List T} {fs gs : Array Field} {f0 f1 f2 f3 f4 f5 g0 g1 : Field} (ht : P.underlying t = some (.struct fs)) (hc : P.cellsOf t = 6)
    (e0 : fs[0]? = some f0) (o0 : f0.offset = 0) (c0 : P.cellsOf f0.type = 1) (t0 : P.underlying f0.type = some (.int .i64)) (e1 : fs[1]? = some f1) (o1 : f1.offset = 1) (c1 : P.cellsOf f1.type = 1) (t1 : P.underlying f1.type = some .string)
    (e2 : fs[2]? = some f2) (o2 : f2.offset = 2) (c2 : P.cellsOf f2.type = 1) (t2 : P.underlying f2.type = some (.int .i64)) (e3 : fs[3]? = some f3) (o3 : f3.offset = 3) (c3 : P.cellsOf f3.type = 1) (t3 : P.underlying f3.type = some (.int .i64))
    (e4 : fs[4]? = some f4) (o4 : f4.offset = 4) (c4 : P.cellsOf f4.type = 1) (t4 : P.underlying f4.type = some (.slice e)) (e5 : fs[5]? = some f5) (o5 : f5.offset = 5) (c5 : P.cellsOf f5.type = 1) (t5 : P.underlying f5.type = some .string)
    (he : P.underlying e = some (.struct gs)) (hce : P.cellsOf e = 2) (e6 : gs[0]? = some g0) (o6 : g0.offset = 0) (c6 : P.cellsOf g0.type = 1) (t6 : P.underlying g0.type = some (.int .i64)) (e7 : gs[1]? = some g1) (o7 : g1.offset = 1) (c7 : P.cellsOf g1.type = 1) (t7 : P.underlying g1.type = some .string)
    (h : Fit P (m + 4) t ts) : ∃ r : Rc, ts = rcT r ∧ r.wraps.length ≤ maxLen := by
  obtain ⟨hl, hf⟩ := fit_fields ht hc h
  match ts, hl with
  | [a, b, c, d, f, g], _ =>
    have h0 := hf 0 f0 e0
    have h1 := hf 1 f1 e1
    have h2 := hf 2 f2 e2
    have h3 := hf 3 f3 e3
    have h4 := hf 4 f4 e4
    have h5 := hf 5 f5 e5
    rw [o0, c0] at h0
    rw [o1, c1] at h1
    rw [o2, c2] at h2
    rw [o3, c3] at h3
    rw [o4, c4] at h4
    rw [o5, c5] at h5
    obtain ⟨x0, rfl, _⟩ := fit_i t0 h0
    obtain ⟨x1, rfl⟩ := fit_s t1 h1
    obtain ⟨x2, rfl, _⟩ := fit_i t2 h2
    obtain ⟨x3, rfl, _⟩ := fit_i t3 h3
    obtain ⟨x5, rfl⟩ := fit_s t5 h5
    obtain ⟨l, rfl, hl⟩ := fit_rows (f := wpT) t4 hce wpT_len (fun ts h => fit_wp he hce e6 o6 c6 t6 e7 o7 c7 t7 h) h4
    exact ⟨⟨x0, x1, x2, x3, l, x5⟩, rfl, hl⟩
section
variable {H : Type} {enc : TypeId × Value → H} {P : Program} {W : World} {r : Reach} {base : Nat} {spare : Nat → Bool} {held : Bool} {t : TypeId} {v : Value} {d : DataW H} {p : List MemPlace} {fs : Array Field}
theorem arg_rc (hfit : ∀ ts, Fit P 4 t ts → ∃ r : Rc, ts = rcT r ∧ r.wraps.length ≤ maxLen) (ht : P.underlying t = some (.struct fs)) (hok : okT P 4 t = true) (hv : Value.okWide P W r base t v) (h : DataW.Trod enc P W 0 spare held t v d p) :
    ∃ (q : Rc) (vs : Array Value), v = .agg vs ∧ RepTs W no (rcT q) vs.toList ∧ q.wraps.length ≤ maxLen := by
  obtain ⟨ts, vs, rfl, h1, h2⟩ := arg_struct (m := 4) ht hv h hok
  obtain ⟨q, rfl, hq⟩ := hfit ts h2
  exact ⟨q, vs, rfl, h1, hq⟩
theorem arg_log {e : TypeId} (hfit : ∀ ts, Fit P 4 e ts → ∃ r : Rc, ts = rcT r ∧ r.wraps.length ≤ maxLen) (ht : P.underlying t = some (.slice e)) (hce : P.cellsOf e = 6) (hok : okT P 5 t = true) (hv : Value.okWide P W r base t v) (h : DataW.Trod enc P W 0 spare held t v d p) :
    ∃ log : List Rc, RepT W no (.sl log.length (log.flatMap rcT)) v ∧ log.length ≤ maxLen ∧ ∀ j, (log.getD j default).wraps.length ≤ maxLen := by
  obtain ⟨x, rx, fx⟩ := arg_slice (m := 5) ht hv h hok
  have hel : ∀ ts, Fit P 4 e ts → ∃ a : { r : Rc // r.wraps.length ≤ maxLen }, ts = rcT a.1 := fun ts h => by
    obtain ⟨r, h1, h2⟩ := hfit ts h
    exact ⟨⟨r, h2⟩, h1⟩
  obtain ⟨l, rfl, hl⟩ := fit_rows (f := fun a : { r : Rc // r.wraps.length ≤ maxLen } => rcT a.1) (k := 6) ht hce (fun a => rcT_len a.1) hel fx
  refine ⟨l.map (·.1), ?_, by simpa using hl, fun j => ?_⟩
  · have : (l.map (·.1)).flatMap rcT = l.flatMap (fun a : { r : Rc // r.wraps.length ≤ maxLen } => rcT a.1) := by rw [List.flatMap_map]
    rw [this, List.length_map]; exact rx
  · rw [List.getD_eq_getElem?_getD, List.getElem?_map]
    cases l[j]? with
    | none => exact Nat.zero_le _
    | some a => exact a.2
end
end Go.Proofs.Tryz
