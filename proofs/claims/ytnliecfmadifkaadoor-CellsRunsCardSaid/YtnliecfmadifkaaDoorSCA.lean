/- A plan, and acts, as arguments. -/
import Derived.Test.YtnliecfmadifkaaDoorSX3
import Derived.Test.YtnliecfmadifkaaDoorOtF
set_option maxRecDepth 100000
set_option linter.unusedVariables false
set_option linter.unusedSimpArgs false
namespace Go.Proofs.Tryd
open Go Go.Ot Go.ChangeShapes Go.WideShapes Go.ChangeAt Go.RowKit
theorem fit_fields {P : Program} {m n : Nat} {t : TypeId} {ts : List T} {fs : Array Field} (ht : P.underlying t = some (.struct fs)) (hc : P.cellsOf t = n) (h : Fit P (m + 1) t ts) : ts.length = n ∧ ∀ (i : Nat) (f : Field), fs[i]? = some f → Fit P m f.type ((ts.drop f.offset).take (P.cellsOf f.type)) := by
  unfold Fit at h
  rw [ht] at h
  exact ⟨h.1.trans hc, fun i f hf => h.2 f (Array.mem_def.1 (Array.mem_of_getElem? hf))⟩
theorem fit_i {P : Program} {m : Nat} {t : TypeId} {c : T} (ht : P.underlying t = some (.int .i64)) (h : Fit P (m + 1) t [c]) : ∃ n : Int, c = num n ∧ n ≤ 9223372036854775807 := by
  obtain ⟨n, hn, hw⟩ := fit_int ht h
  cases hn
  exact ⟨n, rfl, (wf_i64 hw).2⟩
theorem fit_s {P : Program} {m : Nat} {t : TypeId} {c : T} (ht : P.underlying t = some .string) (h : Fit P (m + 1) t [c]) : ∃ s : List UInt8, c = txt s := fit_string ht h
theorem flat_bol : ∀ l : List Bool, l.flatMap (fun b => [bol b]) = l.map bol
  | [] => rfl
  | a :: l => by rw [List.flatMap_cons, flat_bol l]; rfl
theorem fit_bs {P : Program} {m : Nat} {t e : TypeId} {c : T} (ht : P.underlying t = some (.slice e)) (hc : P.cellsOf e = 1) (he : P.underlying e = some .bool) (h : Fit P (m + 2) t [c]) : ∃ l : List Bool, c = lst bol l ∧ l.length ≤ maxLen := by
  obtain ⟨l, rfl, hl⟩ := fit_rows (f := fun b => [bol b]) (k := 1) ht hc (fun _ => rfl) (fun ts h => fit_bool he h) h
  exact ⟨l, by rw [flat_bol]; rfl, hl⟩
theorem fit_pl {m : Nat} {ts : List T} (h : Fit prog (m + 3) 29 ts) : ∃ (c : Int) (l : List Bool), ts = [num c, lst bol l] ∧ c ≤ 9223372036854775807 ∧ l.length ≤ maxLen := by
  obtain ⟨hl, hf⟩ := fit_fields (P := prog) (m := m + 2) (t := 29) underlying29 F.c29 h
  match ts, hl with
  | [a, b], _ =>
    have h0 : Fit prog (m + 2) 3 [a] := by
      have q : Fit prog (m + 2) 3 (([a, b].drop 0).take (prog.cellsOf 3)) := hf 0 _ rfl
      rw [F.c3] at q; exact q
    have h1 : Fit prog (m + 2) 27 [b] := by
      have q : Fit prog (m + 2) 27 (([a, b].drop 1).take (prog.cellsOf 27)) := hf 1 _ rfl
      rw [F.c27] at q; exact q
    obtain ⟨x, rfl, hx⟩ := fit_i underlying3 h0
    obtain ⟨y, rfl, hy⟩ := fit_bs underlying27 F.c4 underlying4 h1
    exact ⟨x, y, rfl, hx, hy⟩
theorem fit_ac {ts : List T} (h : Fit prog 4 44 ts) : ∃ a : Ac, ts = acT a ∧ acP a := by
  obtain ⟨hl, hf⟩ := fit_fields (P := prog) (m := 3) (t := 44) underlying44 F.c44 h
  match ts, hl with
  | [a, b, c, d, e], _ =>
    have h0 : Fit prog 3 3 [a] := by
      have q : Fit prog 3 3 (([a, b, c, d, e].drop 0).take (prog.cellsOf 3)) := hf 0 _ rfl
      rw [F.c3] at q; exact q
    have h1 : Fit prog 3 3 [b] := by
      have q : Fit prog 3 3 (([a, b, c, d, e].drop 1).take (prog.cellsOf 3)) := hf 1 _ rfl
      rw [F.c3] at q; exact q
    have h2 : Fit prog 3 9 [c] := by
      have q : Fit prog 3 9 (([a, b, c, d, e].drop 2).take (prog.cellsOf 9)) := hf 2 _ rfl
      rw [F.c9] at q; exact q
    have h3 : Fit prog 3 29 [d, e] := by
      have q : Fit prog 3 29 (([a, b, c, d, e].drop 3).take (prog.cellsOf 29)) := hf 3 _ rfl
      rw [F.c29] at q; exact q
    obtain ⟨x, rfl, _⟩ := fit_i underlying3 h0
    obtain ⟨y, rfl, hy⟩ := fit_i underlying3 h1
    obtain ⟨z, rfl⟩ := fit_s underlying9 h2
    obtain ⟨n, l, he, hn, hl⟩ := fit_pl (m := 0) h3
    obtain ⟨rfl, h4⟩ := List.cons.inj he
    obtain ⟨rfl, _⟩ := List.cons.inj h4
    exact ⟨⟨x, y, z, n, l⟩, rfl, hy, hn, hl⟩
section
variable {H : Type} {enc : TypeId × Value → H} {W : World} {r : Reach} {base : Nat} {spare : Nat → Bool} {held : Bool} {v : Value} {d : DataW H} {p : List MemPlace}
theorem arg_pl (hok : okT prog 3 29 = true) (hv : Value.okWide prog W r base 29 v) (h : DataW.Trod enc prog W 0 spare held 29 v d p) :
    ∃ (c : Int) (l : List Bool) (vs : Array Value), v = .agg vs ∧ RepTs W no [num c, lst bol l] vs.toList ∧ c ≤ 9223372036854775807 ∧ l.length ≤ maxLen := by
  obtain ⟨ts, vs, rfl, h1, h2⟩ := arg_struct (m := 3) underlying29 hv h hok
  obtain ⟨c, l, rfl, hc, hl⟩ := fit_pl (m := 0) h2
  exact ⟨c, l, vs, rfl, h1, hc, hl⟩
theorem arg_acs (hok : okT prog 5 40 = true) (hv : Value.okWide prog W r base 40 v) (h : DataW.Trod enc prog W 0 spare held 40 v d p) :
    ∃ l : List Ac, RepT W no (.sl l.length (l.flatMap acT)) v ∧ l.length ≤ maxLen ∧ ∀ a ∈ l, acP a := by
  obtain ⟨x, rx, fx⟩ := arg_slice (m := 5) underlying40 hv h hok
  obtain ⟨l, rfl, hl⟩ := fit_rows (f := fun a : { a : Ac // acP a } => acT a.1) (k := 5) underlying40 F.c44 (fun a => acT_len a.1) (fun ts h => by
    obtain ⟨a, h1, h2⟩ := fit_ac h
    exact ⟨⟨a, h2⟩, h1⟩) fx
  refine ⟨l.map (·.1), ?_, by simpa using hl, fun a ha => ?_⟩
  · have : (l.map (·.1)).flatMap acT = l.flatMap (fun a : { a : Ac // acP a } => acT a.1) := by rw [List.flatMap_map]
    rw [this, List.length_map]; exact rx
  · obtain ⟨q, _, rfl⟩ := List.mem_map.1 ha
    exact q.2
end
end Go.Proofs.Tryd
