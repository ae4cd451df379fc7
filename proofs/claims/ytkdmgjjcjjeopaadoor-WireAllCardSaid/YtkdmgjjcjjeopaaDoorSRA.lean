/- A wire as an argument: whatever the input, it is a tree of numbers, texts, lists. -/
import Derived.Test.YtkdmgjjcjjeopaaDoorSWQ
import Derived.Test.YtkdmgjjcjjeopaaDoorOtF
set_option linter.unusedVariables false
set_option linter.unusedSimpArgs false
namespace Go.Ot
open Go.ChangeShapes Go.WideShapes Go.ChangeAt Go.RowKit
theorem read_wire {H : Type} {enc : TypeId × Value → H} {P : Program} {w : World} {base : Nat} {spare : Nat → Bool} {held : Bool} {tW : TypeId} {fs : Array Field} {f0 f1 f2 f3 : Field} (hW : P.underlying tW = some (.struct fs)) (hc : P.cellsOf tW = 4)
    (e0 : fs[0]? = some f0) (o0 : f0.offset = 0) (t0 : P.underlying f0.type = some (.int .i64)) (c0 : P.cellsOf f0.type = 1)
    (e1 : fs[1]? = some f1) (o1 : f1.offset = 1) (t1 : P.underlying f1.type = some (.int .i64)) (c1 : P.cellsOf f1.type = 1)
    (e2 : fs[2]? = some f2) (o2 : f2.offset = 2) (t2 : P.underlying f2.type = some .string) (c2 : P.cellsOf f2.type = 1)
    (e3 : fs[3]? = some f3) (o3 : f3.offset = 3) (t3 : P.underlying f3.type = some (.slice tW)) (c3 : P.cellsOf f3.type = 1) :
    ∀ (N fuel : Nat), fuel ≤ N → ∀ (cs : List Value) (x : DataW H × List MemPlace), DataW.trod enc P w base spare held fuel tW cs = some x → ∃ v : Wr, RepTs w (fun _ => False) v.cells cs := by
  intro N
  induction N with
  | zero => intro fuel hf cs x h; obtain ⟨_, n, rfl, _⟩ := DataW.trod_struct hW h; omega
  | succ N ih =>
    intro fuel hfu cs x h
    obtain ⟨xs, n, rfl, _, hl, hlen, hf⟩ := DataW.trod_struct hW h
    rw [hc] at hl
    match cs, hl with
    | [u0, u1, u2, u3], _ =>
    have some_ : ∀ (i : Nat) (f : Field), fs[i]? = some f → ∃ y, xs[i]? = some y := fun i f h => by
      have hi : i < fs.size := (Array.getElem?_eq_some_iff.1 h).1
      exact ⟨_, List.getElem?_eq_getElem (by omega)⟩
    obtain ⟨y0, hy0⟩ := some_ 0 f0 e0
    obtain ⟨y1, hy1⟩ := some_ 1 f1 e1
    obtain ⟨y2, hy2⟩ := some_ 2 f2 e2
    obtain ⟨y3, hy3⟩ := some_ 3 f3 e3
    have h0 := (hf 0 f0 e0).trans hy0
    have h1 := (hf 1 f1 e1).trans hy1
    have h2 := (hf 2 f2 e2).trans hy2
    have h3 := (hf 3 f3 e3).trans hy3
    rw [o0, c0] at h0
    rw [o1, c1] at h1
    rw [o2, c2] at h2
    rw [o3, c3] at h3
    obtain ⟨a, g0, _, _⟩ := DataW.trod_int t0 h0
    obtain ⟨b, g1, _, _⟩ := DataW.trod_int t1 h1
    obtain ⟨s, g2, _, _⟩ := DataW.trod_string t2 h2
    have k0' : u0 = .int .i64 a := by simpa using g0
    have k1' : u1 = .int .i64 b := by simpa using g1
    have k2' : u2 = .string s := by simpa using g2
    clear g0 g1 g2
    subst k0' k1' k2'
    have fin : ∀ (ws : List Wr), RepT w (fun _ => False) (.sl ws.length (Wr.cellsL ws)) u3 → ∃ v : Wr, RepTs w (fun _ => False) v.cells [.int .i64 a, .int .i64 b, .string s, u3] := fun ws hws =>
      ⟨.mk a b s.data.toList ws, ⟨_, _, rfl, rfl, rfl, _, _, rfl, rfl, rfl, _, _, rfl, rfl, rfl, _, _, rfl, by obtain ⟨A, c, rfl, _⟩ := hws; rfl, hws, rfl⟩⟩
    rcases DataW.trod_slice t3 h3 with ⟨g3, _⟩ | ⟨ad, len, cap, elems, rest, n', rfl, g3, _, _, k1, k2, k3, k4, _⟩
    · have k3' : u3 = .slice none 0 0 := by simpa using g3
      clear g3
      subst k3'
      exact fin [] ⟨none, 0, rfl, Nat.le_refl _, Nat.zero_le _, .inl rfl⟩
    · have k3' : u3 = .slice (some ad) len cap := by simpa using g3
      clear g3
      subst k3'
      have key : ∀ k, k ≤ len → ∃ ws : List Wr, ws.length = k ∧ RepTAt w (fun _ => False) ad 0 (Wr.cellsL ws) := by
        intro k
        induction k with
        | zero => exact fun _ => ⟨[], rfl, trivial⟩
        | succ k ihk =>
          intro hk
          obtain ⟨ws, h5, h6⟩ := ihk (by omega)
          have h8 := k4 k (by omega)
          have hke : k < elems.length := by omega
          rw [List.getElem?_eq_getElem hke] at h8
          obtain ⟨ck, h9, h10⟩ := Option.bind_eq_some_iff.1 h8
          obtain ⟨v, h11⟩ := ih n' (by omega) ck _ h10
          obtain ⟨_, h13, h14⟩ := World.cells?_some h9
          have hlk : v.cells.length = 4 := v.cells_len
          refine ⟨ws ++ [v], by simp [h5], ?_⟩
          rw [Wr.cellsL_app, show Wr.cellsL [v] = v.cells from by simp [Wr.cellsL]]
          refine h6.append ?_
          refine RepTAt.of_get (fun i d hd => ?_)
          obtain ⟨u, h15, h16, h17⟩ := h11.get hd
          refine ⟨u, ?_, h16, h17⟩
          have hi : i < P.cellsOf tW := by rw [hc, ← hlk]; exact (List.getElem?_eq_some_iff.1 hd).1
          have := h14 i hi
          rw [add_add', h15] at this
          rw [Nat.zero_add, Wr.cellsL_len, h5]
          rw [hc] at this
          exact this
      obtain ⟨ws, h5, h6⟩ := key len (Nat.le_refl _)
      subst h5
      exact fin ws ⟨some ad, cap, rfl, k1, k2, .inr ⟨ad, rfl, fun h => h, h6⟩⟩
theorem wA_cells (w : Wr) : wA w = .agg (w.cells.map .t) := by cases w; rfl
theorem rep_wire {W : World} {x : Wr} {vs : Array Value} (h : RepTs W no x.cells vs.toList) : Rep W (Mx (HpOf []) none0 no) none0 (wA x) (.agg vs) := by rw [wA_cells]; exact rep_agg h
end Go.Ot
