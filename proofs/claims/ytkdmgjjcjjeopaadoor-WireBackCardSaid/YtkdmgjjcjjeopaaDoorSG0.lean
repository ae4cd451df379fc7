/- Contracts of this program's functions. -/
import Derived.Test.YtkdmgjjcjjeopaaDoorSU0
set_option maxHeartbeats 4000000
set_option maxRecDepth 100000
set_option linter.unusedVariables false
set_option linter.unusedSimpArgs false
namespace Go.Proofs.Tryd
open Go Go.Ot

def mfold (sub : Wr → Int) : List Wr → Int → Int
  | [], n => n
  | x :: l, n => if n < 1000 then mfold sub l (n + sub x) else n
theorem mfold_nil (sub : Wr → Int) (n : Int) : mfold sub [] n = n := rfl
theorem mfold_stop {sub : Wr → Int} {n : Int} (h : 1000 ≤ n) : ∀ l, mfold sub l n = n
  | [] => rfl
  | x :: l => by rw [mfold, if_neg (by omega)]
theorem mfold_app {sub : Wr → Int} : ∀ (a b : List Wr) (n : Int), mfold sub (a ++ b) n = mfold sub b (mfold sub a n)
  | [], b, n => rfl
  | x :: a, b, n => by
    simp only [List.cons_append, mfold]
    by_cases h : n < 1000
    · rw [if_pos h, if_pos h, mfold_app a b]
    · rw [if_neg h, if_neg h, mfold_stop (by omega)]
theorem mfold_next {sub : Wr → Int} {l : List Wr} {i : Nat} {n : Int} (h : i < l.length) (h2 : mfold sub (l.take i) n < 1000) : mfold sub (l.take (i + 1)) n = mfold sub (l.take i) n + sub (l.getD i default) := by
  have : l.getD i default = l[i] := by simp [List.getD_eq_getElem?_getD, List.getElem?_eq_getElem h]
  rw [List.take_add_one, List.getElem?_eq_getElem h, mfold_app, this]
  simp only [Option.toList_some, mfold, if_pos h2]
theorem mfold_done {sub : Wr → Int} {l : List Wr} {i : Nat} {n : Int} (h : 1000 ≤ mfold sub (l.take i) n) : mfold sub l n = mfold sub (l.take i) n := by
  conv => lhs; rw [← List.take_append_drop i l]
  rw [mfold_app, mfold_stop h]
theorem mfold_le {sub : Wr → Int} {B : Int} (hB : 0 ≤ B) : ∀ {l : List Wr} {n : Int}, (∀ x ∈ l, 0 ≤ sub x ∧ sub x ≤ B) → 0 ≤ n → n ≤ 1000 + B → 0 ≤ mfold sub l n ∧ mfold sub l n ≤ 1000 + B
  | [], n, _, h1, h2 => ⟨h1, h2⟩
  | x :: l, n, h, h1, h2 => by
    rw [mfold]
    have := h x (by simp)
    by_cases hn : n < 1000
    · rw [if_pos hn]; exact mfold_le hB (fun y hy => h y (by simp [hy])) (by omega) (by omega)
    · rw [if_neg hn]; omega
def manyS (last : Bool) (sub : Wr → Int) : Wr → Int
  | .mk k n s l => if last = true ∨ 100 < l.length ∨ 600 < s.length then 1000 else mfold sub l 1
def manyN : Nat → Wr → Int
  | 0 => manyS true (fun _ => 0)
  | f + 1 => manyS false (manyN f)
theorem manyN_z : manyN 0 = manyS true (fun _ => 0) := rfl
theorem manyN_s (f : Nat) : manyN (f + 1) = manyS false (manyN f) := rfl
theorem manyS_t {last : Bool} {sub : Wr → Int} {w : Wr} (h : last = true ∨ 100 < w.l.length ∨ 600 < w.s.length) : manyS last sub w = 1000 := by cases w; simp only [Wr.l_mk, Wr.s_mk] at h; rw [manyS, if_pos h]
theorem manyS_f {last : Bool} {sub : Wr → Int} {w : Wr} (h : ¬ (last = true ∨ 100 < w.l.length ∨ 600 < w.s.length)) : manyS last sub w = mfold sub w.l 1 := by cases w; simp only [Wr.l_mk, Wr.s_mk] at h; rw [manyS, if_neg h]; rfl
theorem manyN_le : ∀ (f : Nat) (w : Wr), 0 ≤ manyN f w ∧ manyN f w ≤ 1000 * (f + 1)
  | 0, w => by rw [manyN_z, manyS_t (.inl rfl)]; omega
  | f + 1, w => by
    rw [manyN_s]
    by_cases h : ((false = true) ∨ 100 < w.l.length ∨ 600 < w.s.length)
    · rw [manyS_t h]; push_cast; omega
    · rw [manyS_f h]
      have := mfold_le (sub := manyN f) (B := 1000 * (f + 1)) (by omega) (l := w.l) (n := 1) (fun x _ => manyN_le f x) (by omega) (by omega)
      push_cast; omega
theorem mfold_sum {sub : Wr → Int} {sz : Wr → Nat} : ∀ {l : List Wr} {n : Int}, (∀ x ∈ l, 0 ≤ sub x ∧ (sub x ≤ 300 → (sz x : Int) ≤ sub x)) → 0 ≤ n → mfold sub l n ≤ 300 → n + ((l.map sz).sum : Nat) ≤ mfold sub l n ∧ ∀ x ∈ l, sub x ≤ 300
  | [], n, _, h1, h2 => by simp [mfold]
  | x :: l, n, h, h1, h2 => by
    rw [mfold] at h2 ⊢
    by_cases hn : n < 1000
    · rw [if_pos hn] at h2 ⊢
      have hx := h x (by simp)
      have ih := mfold_sum (fun y hy => h y (by simp [hy])) (by omega) h2
      have hx2 : sub x ≤ 300 := by omega
      have := hx.2 hx2
      refine ⟨by simp only [List.map_cons, List.sum_cons]; push_cast; push_cast at ih; omega, fun y hy => ?_⟩
      rcases List.mem_cons.1 hy with rfl | hy
      · exact hx2
      · exact ih.2 y hy
    · rw [if_neg hn] at h2; omega
theorem szL_sum : ∀ l : List Wr, Wr.szL l = (l.map Wr.sz).sum
  | [] => rfl
  | w :: l => by simp [Wr.szL, szL_sum l]
theorem len_flatMap {f : Wr → List UInt8} {B : Nat} : ∀ {l : List Wr}, (∀ x ∈ l, (f x).length ≤ B * x.sz) → (l.flatMap f).length ≤ B * Wr.szL l
  | [], _ => by simp
  | w :: l, h => by
    have h1 := h w (by simp)
    have h2 := len_flatMap (f := f) (B := B) (l := l) (fun x hx => h x (by simp [hx]))
    simp only [List.flatMap_cons, List.length_append, Wr.szL, Nat.mul_add]
    omega
theorem putS_len {sub : Wr → List UInt8} {B : Nat} (hB : 9 ≤ B) (w : Wr) (hs : w.s.length + 5 ≤ B) (h : ∀ x ∈ w.l, (sub x).length ≤ B * x.sz) : (putS sub w).length ≤ B * w.sz := by
  cases w with
  | mk k n s l =>
    have h1 := len_flatMap (f := sub) (B := B) (l := l) h
    simp only [Wr.s_mk] at hs
    simp only [putS, List.length_cons, Wr.sz, Nat.mul_add, Nat.mul_one]
    split
    · rw [nb_len]; omega
    · split
      · rw [List.length_append, nb_len]; omega
      · rw [List.length_append, nb_len]; omega
theorem last_zero {f : Nat} {last : Bool} (h : last = decide (f = 0)) (h1 : last = true) : f = 0 := by rw [h1] at h; exact of_decide_eq_true h.symm
theorem last_pos {f : Nat} {last : Bool} (h : last = decide (f = 0)) (h1 : last = false) : 0 < f := by
  rcases Nat.eq_zero_or_pos f with e | e
  · rw [h1, e] at h; simp at h
  · exact e
/-- What a law goes through is not large. -/
theorem many_small : ∀ (f : Nat) (w : Wr), manyN f w ≤ 300 → (w.sz : Int) ≤ manyN f w ∧ ∀ d, (putW d w).length ≤ 700 * w.sz
  | 0, w, h => by rw [manyN_z, manyS_t (.inl rfl)] at h; omega
  | f + 1, w, h => by
    rw [manyN_s] at h ⊢
    by_cases hc : ((false = true) ∨ 100 < w.l.length ∨ 600 < w.s.length)
    · rw [manyS_t hc] at h; omega
    · rw [manyS_f hc] at h ⊢
      obtain ⟨h1, h2⟩ := mfold_sum (sz := Wr.sz) (fun x _ => ⟨(manyN_le f x).1, fun hx => (many_small f x hx).1⟩) (by omega) h
      rw [← szL_sum] at h1
      refine ⟨by cases w with | mk k n s l => simp only [Wr.l_mk] at h1; simp only [Wr.sz]; push_cast; omega, fun d => ?_⟩
      simp only [not_or, Nat.not_lt] at hc
      cases d with
      | zero => exact putS_len (by omega) w (by omega) (fun x hx => by simp)
      | succ d => exact putS_len (by omega) w (by omega) (fun x hx => (many_small f x (h2 x hx)).2 d)
theorem small_of {w : Wr} (h : manyN 21 w ≤ 300) : w.sz ≤ 300 ∧ (putW 6 w).length ≤ 210000 := by
  obtain ⟨h1, h2⟩ := many_small 21 w h
  have := h2 6
  have h3 : w.sz ≤ 300 := by omega
  exact ⟨h3, by omega⟩

end Go.Proofs.Tryd
