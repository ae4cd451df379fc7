/- Contracts of this program's functions. -/
import Derived.Test.YtkbikblijipceaaGreatDoorSC0
set_option maxHeartbeats 4000000
set_option maxRecDepth 100000
set_option linter.unusedVariables false
set_option linter.unusedSimpArgs false
namespace Go.Proofs.Tryz
open Go Go.Ot

theorem all_next {p : Wr → Bool} {l : List Wr} {i : Nat} (hi : i < l.length) (h : (l.take i).all p = true) (hp : p (l.getD i default) = true) : (l.take (i + 1)).all p = true := by
 rw [List.take_add_one, List.getElem?_eq_getElem hi]
 have : l.getD i default = l[i] := by simp [List.getD_eq_getElem?_getD, List.getElem?_eq_getElem hi]
 rw [this] at hp
 rw [List.all_append, h]
 simp [hp]
theorem all_bad {p : Wr → Bool} {l : List Wr} {i : Nat} (hi : i < l.length) (hp : p (l.getD i default) = false) : l.all p = false := by
 rw [List.all_eq_false]
 exact ⟨_, mem_getD hi, by rw [hp]; simp⟩
def deepF (sub : Wr → Int) (l : List Wr) : Int := l.foldl (fun m x => max m (1 + sub x)) 1
theorem deepF_next {sub : Wr → Int} {l : List Wr} {i : Nat} (h : i < l.length) : deepF sub (l.take (i + 1)) = max (deepF sub (l.take i)) (1 + sub (l.getD i default)) := by
 rw [List.take_add_one, List.getElem?_eq_getElem h, deepF, List.foldl_append]
 have : l.getD i default = l[i] := by simp [List.getD_eq_getElem?_getD, List.getElem?_eq_getElem h]
 rw [this]; rfl
theorem deepF_le {sub : Wr → Int} {B : Int} : ∀ {l : List Wr}, 1 ≤ B → (∀ x ∈ l, 1 + sub x ≤ B) → 1 ≤ deepF sub l ∧ deepF sub l ≤ B := by
 intro l
 have key : ∀ (l : List Wr) (m : Int), 1 ≤ m → m ≤ B → (∀ x ∈ l, 1 + sub x ≤ B) → 1 ≤ l.foldl (fun m x => max m (1 + sub x)) m ∧ l.foldl (fun m x => max m (1 + sub x)) m ≤ B := by
  intro l
  induction l with
  | nil => intro m h1 h2 _; exact ⟨h1, h2⟩
  | cons a l ih =>
   intro m h1 h2 h
   have := h a (by simp)
   exact ih _ (by show 1 ≤ max m (1 + sub a); omega) (by show max m (1 + sub a) ≤ B; omega) (fun x hx => h x (by simp [hx]))
 intro h1 h2
 exact key l 1 (Int.le_refl _) h1 h2
def deepS (pos : Bool) (sub : Wr → Int) : Wr → Int
 | .mk k n s l => if k ≠ 3 then 0 else if pos = true then deepF sub l else 1
def deepW : Nat → Wr → Int
 | 0 => deepS false (fun _ => 0)
 | d + 1 => deepS true (deepW d)
theorem deepS_o {pos : Bool} {sub : Wr → Int} {w : Wr} (h : w.k ≠ 3) : deepS pos sub w = 0 := by cases w; simp only [Wr.k_mk] at h; simp [deepS, h]
theorem deepS_3 {pos : Bool} {sub : Wr → Int} {w : Wr} (h : w.k = 3) : deepS pos sub w = if pos = true then deepF sub w.l else 1 := by cases w; simp only [Wr.k_mk] at h; simp [deepS, h, Wr.l_mk]
theorem deepW_le : ∀ (d : Nat) (w : Wr), 0 ≤ deepW d w ∧ deepW d w ≤ d + 1
 | 0, w => by cases w; simp only [deepW, deepS]; split <;> simp
 | d + 1, w => by
  cases w with
  | mk k n s l =>
   simp only [deepW, deepS]
   split
   ·omega
   ·have := deepF_le (sub := deepW d) (B := d + 2) (l := l) (by omega) (fun x _ => by have := (deepW_le d x).2; omega)
    simp only [if_true]
    constructor
    ·omega
    ·have := this.2; push_cast; omega
/-- What may be is not too deep. -/
theorem deep_may : ∀ (d n : Nat) (w : Wr), mayW d w = true → deepW n w ≤ d
 | d, 0, w, h => by
  cases w with
  | mk k n s l =>
   simp only [deepW, deepS]
   split
   ·omega
   ·rename_i hk
    have hk : k = 3 := by omega
    subst hk
    cases d with
    | zero => rw [mayW, mayS_3] at h; simp at h
    | succ d => simp; omega
 | 0, n + 1, w, h => by
  cases w with
  | mk k n' s l =>
   simp only [deepW, deepS]
   split
   ·omega
   ·rename_i hk
    have hk : k = 3 := by omega
    subst hk
    rw [mayW, mayS_3] at h; simp at h
 | d + 1, n + 1, w, h => by
  cases w with
  | mk k n' s l =>
   simp only [deepW, deepS]
   split
   ·omega
   ·rename_i hk
    have hk : k = 3 := by omega
    subst hk
    rw [mayW, mayS_3] at h
    simp only [Bool.and_eq_true, List.all_eq_true] at h
    have := deepF_le (sub := deepW n) (B := d + 1) (l := l) (by omega) (fun x hx => by have := deep_may d n x (h.2 x hx); omega)
    simp only [if_true]
    have := this.2; omega
theorem nb8_drop (n : Nat) (h : n < 4294967296) : (nb 8 n).drop 4 = nb 4 n := by
 have e : ∀ x, nb 8 x = nb 4 (x / 4294967296) ++ nb 4 x := by
  intro x
  simp only [nb, List.nil_append, List.append_assoc, List.cons_append, Nat.div_div_eq_div_mul]
 rw [e, List.drop_append_of_le_length (by rw [nb_len]; omega), List.drop_eq_nil_of_le (by rw [nb_len]; omega), List.nil_append]
theorem mayW_z : mayW 0 = mayS false (fun _ => false) := rfl
theorem mayW_s (d : Nat) : mayW (d + 1) = mayS true (mayW d) := rfl
theorem deepW_z : deepW 0 = deepS false (fun _ => 0) := rfl
theorem deepW_s (d : Nat) : deepW (d + 1) = deepS true (deepW d) := rfl
theorem putW_z : putW 0 = putS (fun _ => []) := rfl
theorem putW_s (d : Nat) : putW (d + 1) = putS (putW d) := rfl
theorem deepF_nil (sub : Wr → Int) : deepF sub [] = 1 := rfl
theorem u64_nat {n : Nat} (h : n < 18446744073709551616) : u64 (n : Int) = n := by simp only [u64]; omega

end Go.Proofs.Tryz
