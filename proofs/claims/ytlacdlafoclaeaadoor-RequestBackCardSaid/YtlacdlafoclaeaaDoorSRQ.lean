/- A request and a reply as arguments: three numbers and a text, or a list of texts. -/
import Derived.Test.YtlacdlafoclaeaaDoorSQ0
import Derived.Test.YtlacdlafoclaeaaDoorOtF
set_option linter.unusedVariables false
set_option linter.unusedSimpArgs false
namespace Go.Ot
open Go.ChangeShapes Go.WideShapes Go.ChangeAt Go.RowKit
theorem fit4 {P : Program} {m : Nat} {t : TypeId} {ts : List T} {fs : Array Field} {f0 f1 f2 f3 : Field} (ht : P.underlying t = some (.struct fs)) (hc : P.cellsOf t = 4)
    (e0 : fs[0]? = some f0) (o0 : f0.offset = 0) (c0 : P.cellsOf f0.type = 1) (e1 : fs[1]? = some f1) (o1 : f1.offset = 1) (c1 : P.cellsOf f1.type = 1)
    (e2 : fs[2]? = some f2) (o2 : f2.offset = 2) (c2 : P.cellsOf f2.type = 1) (e3 : fs[3]? = some f3) (o3 : f3.offset = 3) (c3 : P.cellsOf f3.type = 1)
    (h : Fit P (m + 1) t ts) : ∃ a b c d, ts = [a, b, c, d] ∧ Fit P m f0.type [a] ∧ Fit P m f1.type [b] ∧ Fit P m f2.type [c] ∧ Fit P m f3.type [d] := by
  unfold Fit at h
  rw [ht] at h
  obtain ⟨hl, hf⟩ := h
  rw [hc] at hl
  match ts, hl with
  | [a, b, c, d], _ =>
    have mem : ∀ (i : Nat) (f : Field), fs[i]? = some f → f ∈ fs.toList := fun i f h => by
      have := Array.mem_of_getElem? h
      exact Array.mem_def.1 this
    have h0 := hf f0 (mem 0 f0 e0)
    have h1 := hf f1 (mem 1 f1 e1)
    have h2 := hf f2 (mem 2 f2 e2)
    have h3 := hf f3 (mem 3 f3 e3)
    rw [o0, c0] at h0
    rw [o1, c1] at h1
    rw [o2, c2] at h2
    rw [o3, c3] at h3
    exact ⟨a, b, c, d, rfl, h0, h1, h2, h3⟩
section
variable {H : Type} {enc : TypeId × Value → H} {P : Program} {W : World} {r : Reach} {base : Nat} {spare : Nat → Bool} {held : Bool} {t : TypeId} {v : Value} {d : DataW H} {p : List MemPlace} {fs : Array Field} {f0 f1 f2 f3 : Field}
theorem arg_rq (hv : Value.okWide P W r base t v) (h : DataW.Trod enc P W 0 spare held t v d p) (ht : P.underlying t = some (.struct fs)) (hok : okT P 4 t = true) (hc : P.cellsOf t = 4)
    (e0 : fs[0]? = some f0) (o0 : f0.offset = 0) (t0 : P.underlying f0.type = some (.int .i64)) (c0 : P.cellsOf f0.type = 1) (e1 : fs[1]? = some f1) (o1 : f1.offset = 1) (t1 : P.underlying f1.type = some (.int .i64)) (c1 : P.cellsOf f1.type = 1)
    (e2 : fs[2]? = some f2) (o2 : f2.offset = 2) (t2 : P.underlying f2.type = some (.int .i64)) (c2 : P.cellsOf f2.type = 1) (e3 : fs[3]? = some f3) (o3 : f3.offset = 3) (t3 : P.underlying f3.type = some .string) (c3 : P.cellsOf f3.type = 1) :
    ∃ (a b c : Int) (s : List UInt8) (vs : Array Value), v = .agg vs ∧ RepTs W no [num a, num b, num c, txt s] vs.toList ∧ (-9223372036854775808 ≤ a ∧ a ≤ 9223372036854775807) ∧ (-9223372036854775808 ≤ b ∧ b ≤ 9223372036854775807) ∧ (-9223372036854775808 ≤ c ∧ c ≤ 9223372036854775807) ∧ s.length ≤ maxLen := by
  obtain ⟨ts, vs, rfl, h1, h2⟩ := arg_struct (m := 4) ht hv h hok
  obtain ⟨a, b, c, d, rfl, g0, g1, g2, g3⟩ := fit4 (m := 3) ht hc e0 o0 c0 e1 o1 c1 e2 o2 c2 e3 o3 c3 h2
  obtain ⟨a, ea, ha⟩ := fit_int t0 g0
  obtain ⟨b, eb, hb⟩ := fit_int t1 g1
  obtain ⟨c, ec, hc'⟩ := fit_int t2 g2
  unfold Fit at g3
  rw [t3] at g3
  obtain ⟨s, es, hs⟩ := g3
  cases ea; cases eb; cases ec; cases es
  exact ⟨a, b, c, s.data.toList, vs, rfl, h1, wf_i64 ha, wf_i64 hb, wf_i64 hc', hs⟩
theorem arg_rp {e : TypeId} (hv : Value.okWide P W r base t v) (h : DataW.Trod enc P W 0 spare held t v d p) (ht : P.underlying t = some (.struct fs)) (hok : okT P 4 t = true) (hc : P.cellsOf t = 4)
    (e0 : fs[0]? = some f0) (o0 : f0.offset = 0) (t0 : P.underlying f0.type = some (.int .i64)) (c0 : P.cellsOf f0.type = 1) (e1 : fs[1]? = some f1) (o1 : f1.offset = 1) (t1 : P.underlying f1.type = some (.int .i64)) (c1 : P.cellsOf f1.type = 1)
    (e2 : fs[2]? = some f2) (o2 : f2.offset = 2) (t2 : P.underlying f2.type = some (.int .i64)) (c2 : P.cellsOf f2.type = 1) (e3 : fs[3]? = some f3) (o3 : f3.offset = 3) (t3 : P.underlying f3.type = some (.slice e)) (c3 : P.cellsOf f3.type = 1)
    (te : P.underlying e = some .string) (ce : P.cellsOf e = 1) :
    ∃ (a b c : Int) (l : List (List UInt8)) (vs : Array Value), v = .agg vs ∧ RepTs W no [num a, num b, num c, lst txt l] vs.toList ∧ (-9223372036854775808 ≤ a ∧ a ≤ 9223372036854775807) ∧ (-9223372036854775808 ≤ b ∧ b ≤ 9223372036854775807) ∧ (-9223372036854775808 ≤ c ∧ c ≤ 9223372036854775807) ∧ l.length ≤ maxLen := by
  obtain ⟨ts, vs, rfl, h1, h2⟩ := arg_struct (m := 4) ht hv h hok
  obtain ⟨a, b, c, d, rfl, g0, g1, g2, g3⟩ := fit4 (m := 3) ht hc e0 o0 c0 e1 o1 c1 e2 o2 c2 e3 o3 c3 h2
  obtain ⟨a, ea, ha⟩ := fit_int t0 g0
  obtain ⟨b, eb, hb⟩ := fit_int t1 g1
  obtain ⟨c, ec, hc'⟩ := fit_int t2 g2
  obtain ⟨l, el, hl⟩ := fit_list (m := 2) (f := txt) t3 ce (el_txt te) g3
  cases ea; cases eb; cases ec; cases el
  exact ⟨a, b, c, l, vs, rfl, h1, wf_i64 ha, wf_i64 hb, wf_i64 hc', hl⟩
end
end Go.Ot
