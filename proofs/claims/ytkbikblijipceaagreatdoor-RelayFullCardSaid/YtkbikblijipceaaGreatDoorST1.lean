/- Contracts of this program's functions. -/
import Derived.Test.YtkbikblijipceaaGreatDoorSC1
set_option maxHeartbeats 4000000
set_option maxRecDepth 100000
set_option linter.unusedVariables false
set_option linter.unusedSimpArgs false
namespace Go.Proofs.Tryz
open Go Go.Ot
theorem yG5 {p : Wr → Bool} {l : List Wr} {i : Nat} (hi : i < l.length) (h : (l.take i).all p = true) (hp : p (l.getD i default) = true) : (l.take (i + 1)).all p = true := by
 rw [List.take_add_one, List.getElem?_eq_getElem hi]
 have : l.getD i default = l[i] := by simp [List.getD_eq_getElem?_getD, List.getElem?_eq_getElem hi]
 rw [this] at hp
 rw [List.all_append, h]
 simp [hp]
theorem yJw {p : Wr → Bool} {l : List Wr} {i : Nat} (hi : i < l.length) (hp : p (l.getD i default) = false) : l.all p = false := by
 rw [List.all_eq_false]
 exact ⟨_, uR hi, by rw [hp]; simp⟩
def kL (sub : Wr → Int) (l : List Wr) : Int := l.foldl (fun m x => max m (1 + sub x)) 1
theorem yCL {sub : Wr → Int} {l : List Wr} {i : Nat} (h : i < l.length) : kL sub (l.take (i + 1)) = max (kL sub (l.take i)) (1 + sub (l.getD i default)) := by
 rw [List.take_add_one, List.getElem?_eq_getElem h, kL, List.foldl_append]
 have : l.getD i default = l[i] := by simp [List.getD_eq_getElem?_getD, List.getElem?_eq_getElem h]
 rw [this]; rfl
theorem cA {sub : Wr → Int} {B : Int} : ∀ {l : List Wr}, 1 ≤ B → (∀ x ∈ l, 1 + sub x ≤ B) → 1 ≤ kL sub l ∧ kL sub l ≤ B := by
 intro l
 have key : ∀ (l : List Wr) (m : Int), 1 ≤ m → m ≤ B → (∀ x ∈ l, 1 + sub x ≤ B) → 1 ≤ l.foldl (fun m x => max m (1 + sub x)) m ∧ l.foldl (fun m x => max m (1 + sub x)) m ≤ B := by
  intro l
  induction l with
  | nil => intro m h1 h2 _; exact ⟨h1, h2⟩
  | cons a l ih =>
   intro m h1 h2 h
   have := h a (by simp)
   exact ih _ (by show 1 ≤ max m (1 + sub a); omega) (by show max m (1 + sub a) ≤ B; omega) (fun x hx => h x (by simp [hx]))
 intro h1 h2
 exact key l 1 (Int.le_refl _) h1 h2
def pN (pos : Bool) (sub : Wr → Int) : Wr → Int
 | .mk k n s l => if k ≠ 3 then 0 else if pos = true then kL sub l else 1
def deepW : Nat → Wr → Int
 | 0 => pN false (fun _ => 0)
 | d + 1 => pN true (deepW d)
theorem yJe {pos : Bool} {sub : Wr → Int} {w : Wr} (h : w.k ≠ 3) : pN pos sub w = 0 := by cases w; simp only [Wr.k_mk] at h; simp [pN, h]
theorem yJf {pos : Bool} {sub : Wr → Int} {w : Wr} (h : w.k = 3) : pN pos sub w = if pos = true then kL sub w.l else 1 := by cases w; simp only [Wr.k_mk] at h; simp [pN, h, Wr.l_mk]
theorem deepW_le : ∀ (d : Nat) (w : Wr), 0 ≤ deepW d w ∧ deepW d w ≤ d + 1
 | 0, w => by cases w; simp only [deepW, pN]; split <;> simp
 | d + 1, w => by
  cases w with
  | mk k n s l =>
   simp only [deepW, pN]
   split
   ·omega
   ·have := cA (sub := deepW d) (B := d + 2) (l := l) (by omega) (fun x _ => by have := (deepW_le d x).2; omega)
    simp only [if_true]
    constructor
    ·omega
    ·have := this.2; push_cast; omega
theorem deep_may : ∀ (d n : Nat) (w : Wr), mayW d w = true → deepW n w ≤ d
 | d, 0, w, h => by
  cases w with
  | mk k n s l =>
   simp only [deepW, pN]
   split
   ·omega
   ·rename_i hk
    have hk : k = 3 := by omega
    subst hk
    cases d with
    | zero => rw [mayW, uY] at h; simp at h
    | succ d => simp; omega
 | 0, n + 1, w, h => by
  cases w with
  | mk k n' s l =>
   simp only [deepW, pN]
   split
   ·omega
   ·rename_i hk
    have hk : k = 3 := by omega
    subst hk
    rw [mayW, uY] at h; simp at h
 | d + 1, n + 1, w, h => by
  cases w with
  | mk k n' s l =>
   simp only [deepW, pN]
   split
   ·omega
   ·rename_i hk
    have hk : k = 3 := by omega
    subst hk
    rw [mayW, uY] at h
    simp only [Bool.and_eq_true, List.all_eq_true] at h
    have := cA (sub := deepW n) (B := d + 1) (l := l) (by omega) (fun x hx => by have := deep_may d n x (h.2 x hx); omega)
    simp only [if_true]
    have := this.2; omega
theorem yF5 (n : Nat) (h : n < 4294967296) : (nb 8 n).drop 4 = nb 4 n := by
 have e : ∀ x, nb 8 x = nb 4 (x / 4294967296) ++ nb 4 x := by
  intro x
  simp only [nb, List.nil_append, List.append_assoc, List.cons_append, Nat.div_div_eq_div_mul]
 rw [e, List.drop_append_of_le_length (by rw [nb_len]; omega), List.drop_eq_nil_of_le (by rw [nb_len]; omega), List.nil_append]
theorem mayW_z : mayW 0 = tB false (fun _ => false) := rfl
theorem lZ (d : Nat) : mayW (d + 1) = tB true (mayW d) := rfl
theorem deepW_z : deepW 0 = pN false (fun _ => 0) := rfl
theorem yJd (d : Nat) : deepW (d + 1) = pN true (deepW d) := rfl
theorem putW_z : putW 0 = uW (fun _ => []) := rfl
theorem lW (d : Nat) : putW (d + 1) = uW (putW d) := rfl
theorem gD (sub : Wr → Int) : kL sub [] = 1 := rfl
theorem yHO {n : Nat} (h : n < 18446744073709551616) : u64 (n : Int) = n := by simp only [u64]; omega
end Go.Proofs.Tryz

namespace Go.Proofs.Tryz
open Go Go.Ot
attribute [local simp] num bol txt w8 w16 w32 w64 lst cls xZ xR List.take_of_length_le
attribute [local irreducible] wpK wpS uE wH wV wN wZ xD Le rdS lpW rdW got tB mayW ixF uW putW nb u64 kL pN deepW
theorem right_step (Γ : Gl) (d : Nat) (hd6 : d ≤ 6) (deep : Bool) (hdeep : deep = decide (0 < d)) (sub : Wr → Bool) (IH : 0 < d → ∀ w : Wr, w.sz ≤ 1000000 → Go.Ot.Good Γ prog 134 [wA w, .t (num ((d : Int) - 1))] [] (.t (bol (sub w))) [] []) (w : Wr) (hw : w.l.length ≤ 1000000) (hz : Wr.szL w.l ≤ 1000000) : Go.Ot.Good Γ prog 134 [wA w, .t (num d)] [] (.t (bol (tB deep sub w))) [] [] := by
 refine yR F.mix func134 (by rfl) ntmps134 ?_
 refine yD (yA rfl ?_)
 iterate 2 refine yF ?_
 refine yE (yB (yC (yD (yD (yA rfl ?_)))))
 have h4 : w.k = 1 ∨ w.k = 2 ∨ w.k = 3 ∨ (w.k ≠ 1 ∧ w.k ≠ 2 ∧ w.k ≠ 3) := by omega
 obtain ⟨k, n, s, l⟩ := w
 simp only [Wr.k_mk] at h4
 have hl : l.length ≤ 1000000 := hw
 rcases h4 with rfl | rfl | rfl | h4
 ·skip
  iterate 2 refine yF ?_
  refine yE (yB (yC (yH (yD (yA rfl ?_)))))
  iterate 2 refine yF ?_
  refine yE (yB (yC (xF (yD (yA rfl ?_)))))
  rcases (show s ≠ [] ∨ s = [] from by by_cases h : s = []; exact .inr h; exact .inl h) with h1 | rfl
  ·try have hb := tA h1
   iterate 2 refine yF ?_
   refine yF (hs := by (simp only [push_cast, hb] <;> rfl)) ?_
   refine yF ?_
   iterate 4 refine wJ ?_
   iterate 2 refine yF ?_
   refine yE (yB (yC (yO (yI (yG ?_)))))
   refine ⟨.inr rfl, yP [] (by rw [results134]) ?_ ?_ ?_⟩ <;> simp [jX, hb]
  ·try have hb := tA h1
   iterate 4 refine yF ?_
   iterate 4 refine xB ?_
   iterate 2 refine yF ?_
   refine yE (yB (yC (yO (yI (yG ?_)))))
   refine ⟨.inr rfl, yP [] (by rw [results134]) ?_ ?_ ?_⟩ <;> simp [jX]
 ·skip
  iterate 2 refine yF ?_
  refine yE (yB (yC (yH (yD (yA rfl ?_)))))
  iterate 2 refine yF ?_
  refine yE (yB (yC (yJ (yD (yA rfl ?_)))))
  iterate 2 refine yF ?_
  refine yE (yB (yC (xF (yD (yA rfl ?_)))))
  have h5 : n ≠ 0 ∨ (n = 0 ∧ l.length ≠ 0) ∨ (n = 0 ∧ l.length = 0) := by omega
  rcases h5 with h1 | ⟨rfl, h1⟩ | ⟨rfl, h1⟩
  ·skip
   iterate 4 refine yF ?_
   iterate 4 refine wJ ?_
   iterate 2 refine yF ?_
   iterate 4 refine wJ ?_
   iterate 2 refine yF ?_
   refine yE (yB (yC (yO (yI (yG ?_)))))
   refine ⟨.inr rfl, yP [] (by rw [results134]) ?_ ?_ ?_⟩ <;> simp [sR, h1]
  ·skip
   iterate 4 refine yF ?_
   iterate 4 refine xB ?_
   iterate 2 refine yF ?_
   iterate 4 refine wJ ?_
   iterate 2 refine yF ?_
   refine yE (yB (yC (yO (yI (yG ?_)))))
   refine ⟨.inr rfl, yP [] (by rw [results134]) ?_ ?_ ?_⟩ <;> simp [sR, h1]
  ·skip
   iterate 4 refine yF ?_
   iterate 4 refine xB ?_
   iterate 2 refine yF ?_
   iterate 4 refine xB ?_
   iterate 2 refine yF ?_
   refine yE (yB (yC (yO (yI (yG ?_)))))
   refine ⟨.inr rfl, yP [] (by rw [results134]) ?_ ?_ ?_⟩ <;> simp [sR, h1, show ((s.length : Int) ≤ 1048576) = (s.length ≤ 1048576) from propext (by omega)]
 ·skip
  iterate 2 refine yF ?_
  refine yE (yB (yC (yH (yD (yA rfl ?_)))))
  iterate 2 refine yF ?_
  refine yE (yB (yC (yJ (yD (yA rfl ?_)))))
  iterate 2 refine yF ?_
  refine yE (yB (yC (yJ (yD (yA rfl ?_)))))
  iterate 2 refine yF ?_
  refine yE (yB (yC (xF (yD (yD (yA rfl ?_))))))
  have h5 : (n ≠ 0) ∨ (n = 0 ∧ s ≠ []) ∨ (n = 0 ∧ s = [] ∧ 65536 < l.length) ∨ (n = 0 ∧ s = [] ∧ l.length ≤ 65536 ∧ d = 0) ∨ (n = 0 ∧ s = [] ∧ l.length ≤ 65536 ∧ 0 < d) := by
   by_cases h1 : n = 0
   ·by_cases hs : s = []
    ·rcases Nat.lt_or_ge 65536 l.length with h2 | h2
     ·exact .inr (.inr (.inl ⟨h1, hs, h2⟩))
     ·rcases Nat.eq_zero_or_pos d with h | h
      ·exact .inr (.inr (.inr (.inl ⟨h1, hs, h2, h⟩)))
      ·exact .inr (.inr (.inr (.inr ⟨h1, hs, h2, h⟩)))
    ·exact .inr (.inl ⟨h1, hs⟩)
   ·exact .inl h1
  rcases h5 with h1 | ⟨rfl, h1⟩ | ⟨rfl, rfl, h1⟩ | ⟨rfl, rfl, h1, h0⟩ | ⟨rfl, rfl, h1, h0⟩
  ·try have hb := tA h1
   iterate 4 refine yF ?_
   iterate 3 refine wJ ?_
   iterate 2 refine yF ?_
   iterate 4 refine wJ ?_
   iterate 2 refine yF ?_
   iterate 2 refine wJ ?_
   refine yF ?_
   refine yE (yB (yC (xF (yD (yA rfl ?_)))))
   refine yF ?_
   refine yE (yB (yC (yO (yG (yI (yG ?_))))))
   refine ⟨.inr rfl, yP [] (by rw [results134]) ?_ ?_ ?_⟩ <;> simp [uY, h1]
  ·try have hb := tA h1
   iterate 4 refine yF ?_
   iterate 2 refine xB ?_
   refine xB (hs := by (simp only [push_cast, hb] <;> rfl)) ?_
   iterate 2 refine yF ?_
   iterate 4 refine wJ ?_
   iterate 2 refine yF ?_
   iterate 2 refine wJ ?_
   refine yF ?_
   refine yE (yB (yC (xF (yD (yA rfl ?_)))))
   refine yF ?_
   refine yE (yB (yC (yO (yG (yI (yG ?_))))))
   refine ⟨.inr rfl, yP [] (by rw [results134]) ?_ ?_ ?_⟩ <;> simp [uY, hb]
  ·try have hb := tA h1
   iterate 4 refine yF ?_
   iterate 3 refine xB ?_
   iterate 2 refine yF ?_
   iterate 4 refine xB ?_
   iterate 2 refine yF ?_
   iterate 2 refine wJ ?_
   refine yF ?_
   refine yE (yB (yC (xF (yD (yA rfl ?_)))))
   refine yF ?_
   refine yE (yB (yC (yO (yG (yI (yG ?_))))))
   refine ⟨.inr rfl, yP [] (by rw [results134]) ?_ ?_ ?_⟩ <;> simp [uY, show ¬ l.length ≤ 65536 from by omega]
  ·try have hb := tA h1
   iterate 4 refine yF ?_
   iterate 3 refine xB ?_
   iterate 2 refine yF ?_
   iterate 4 refine xB ?_
   iterate 2 refine yF ?_
   iterate 2 refine xB ?_
   refine yF ?_
   refine yE (yB (yC (xF (yD (yA rfl ?_)))))
   refine yF ?_
   refine yE (yB (yC (yO (yG (yI (yG ?_))))))
   refine ⟨.inr rfl, yP [] (by rw [results134]) ?_ ?_ ?_⟩ <;> simp [uY, hdeep, h0]
  ·try have hb := tA h1
   iterate 4 refine yF ?_
   iterate 3 refine xB ?_
   iterate 2 refine yF ?_
   iterate 4 refine xB ?_
   iterate 2 refine yF ?_
   iterate 2 refine xB ?_
   refine yF ?_
   refine yE (yB (yC (yJ (yL (yC (yD (yD (yA rfl ?_))))))))
   refine yF ?_
   refine yE (yB (yC (yH ?_)))
   refine xN (fun sl L (i : Nat) => ⟨setAll (setBad sl [0, 4, 6, 7, 8, 9, 10, 11, 12, 13, 14, 15, 16, 17, 18, 19, 20, 21, 22, 23, 24, 25, 26, 27, 28, 29, 30, 31, 32, 33, 34, 35, 36, 37, 38, 39, 40, 41, 42, 43, 44, 45, 46, 47, 48, 49, 50, 51, 52, 53, 54, 55, 56, 57, 58, 59, 60, 61, 62, 63, 64, 65, 66, 67, 68, 69, 70, 71]) [(5, .t (num i))], Go.Ot.look (L)⟩) (fun i => i ≤ l.length ∧ (l.take i).all sub = true) (fun i => l.length - i) (0) (wF ?_) ?_ ?_
   ·refine yT ?_ ?_ ?_ <;> simp
   ·exact ⟨by omega, by simp⟩
   ·intro i hi
    refine vE ?_
    refine yD (yD (yA rfl ?_))
    iterate 5 refine yF ?_
    refine yE (yB (yC ?_))
    refine vL (fun hc4 => ?_) (fun hc4 => ?_)
    ·(try simp only [zB] at hc4)
     refine yL (yC (yD (yH (yD (yA rfl ?_)))))
     iterate 4 refine yF ?_
     refine yF (hc := by (rw [List.length_drop, Wr.cellsL_len]; omega)) ?_
     iterate 2 refine yF ?_
     refine yU [] false (IH h0 (l.getD i default) (by have := Wr.sz_mem (uR (l := l) (i := i) (by omega)); simp only [Wr.l_mk] at hz; omega)) ?_
     refine yF ?_
     refine yE (yB (yC ?_))
     refine vL (fun hc5 => ?_) (fun hc5 => ?_)
     ·(try simp only [zB] at hc5)
      have hs := yJw (p := sub) (l := l) (i := i) (by omega) hc5
      refine yD (yA rfl ?_)
      refine yF ?_
      refine yE (yB (yC (yO (yI (yG (wI (yI (yG (yI (yG ?_))))))))))
      refine ⟨.inr rfl, yP [] (by rw [results134]) ?_ ?_ ?_⟩ <;> simp [uY, hdeep, h0, h1, hs]
     ·(try simp only [zB] at hc5)
      refine yL (yS (yC (yA rfl ?_)))
      iterate 3 refine yF ?_
      refine yE (yB ?_)
      refine xE (i + 1) (wF ?_) ?_ ?_
      ·refine yT ?_ ?_ ?_ <;> simp
      ·exact ⟨by omega, yG5 (by omega) hi.2 hc5⟩
      ·(first | omega | (simp only []; omega))
    ·(try simp only [zB] at hc4)
     have hs : l.all sub = true := by have := hi.2; rwa [List.take_of_length_le (by omega)] at this
     refine xQ (yM (yN (yK (yC (yD (yA rfl ?_))))))
     refine yF ?_
     refine yE (yB (yC (yO (yI (yG ?_)))))
     refine ⟨.inr rfl, yP [] (by rw [results134]) ?_ ?_ ?_⟩ <;> simp [uY, hdeep, h0, h1, hs]
 ·skip
  iterate 2 refine yF ?_
  refine yE (yB (yC (yH (yD (yA rfl ?_)))))
  iterate 2 refine yF ?_
  refine yE (yB (yC (yJ (yD (yA rfl ?_)))))
  iterate 2 refine yF ?_
  refine yE (yB (yC (yJ (yD (yA rfl ?_)))))
  iterate 2 refine yF ?_
  refine yE (yB (yC (yJ (yL (yS (yC (yD (yA rfl ?_))))))))
  refine yF ?_
  refine yE (yB (yC (yO ?_)))
  refine ⟨.inr rfl, yP [] (by rw [results134]) ?_ ?_ ?_⟩ <;> simp [yD0 h4]
theorem fU (Γ : Gl) : ∀ (d : Nat), d ≤ 6 → ∀ w : Wr, w.sz ≤ 1000000 → Go.Ot.Good Γ prog 134 [wA w, .t (num d)] [] (.t (bol (mayW d w))) [] []
 | 0, h, w, hw => by rw [mayW_z]; exact right_step Γ 0 h false (by simp) (fun _ => false) (fun h => by omega) w (by cases w with | mk k n s l => have := sz_l k n s l; simp only [Wr.l_mk]; omega) (by cases w with | mk k n s l => simp only [Wr.l_mk]; simp [Wr.sz] at hw; omega)
 | d + 1, h, w, hw => by rw [lZ]; exact right_step Γ (d + 1) h true (by simp) (mayW d) (fun _ w hw => by
   have := fU Γ d (by omega) w hw
   rwa [show ((d + 1 : Nat) : Int) - 1 = (d : Int) from by omega]) w (by cases w with | mk k n s l => have := sz_l k n s l; simp only [Wr.l_mk]; omega) (by cases w with | mk k n s l => simp only [Wr.l_mk]; simp [Wr.sz] at hw; omega)
theorem aY (Γ : Gl) (d : Nat) (hd6 : d ≤ 7) (deep : Bool) (hdeep : deep = decide (0 < d)) (sub : Wr → Int) (hsub : ∀ x, 0 ≤ sub x ∧ sub x ≤ 100) (IH : 0 < d → ∀ w : Wr, w.sz ≤ 1000000 → Go.Ot.Good Γ prog 135 [wA w, .t (num ((d : Int) - 1))] [] (.t (num (sub w))) [] []) (w : Wr) (hw : w.l.length ≤ 1000000) (hz : Wr.szL w.l ≤ 1000000) : Go.Ot.Good Γ prog 135 [wA w, .t (num d)] [] (.t (num (pN deep sub w))) [] [] := by
 refine yR F.mix func135 (by rfl) ntmps135 ?_
 refine yD (yA rfl ?_)
 iterate 2 refine yF ?_
 refine yE (yB (yC (yD (yD (yA rfl ?_)))))
 iterate 3 refine yF ?_
 refine yE (yB (yC ?_))
 refine vL (fun hc0 => ?_) (fun hc0 => ?_)
 ·(try simp only [zB] at hc0)
  have hs := yJe (pos := deep) (sub := sub) hc0
  refine yD (yA rfl ?_)
  refine yF ?_
  refine yE (yB (yC (yO (yG ?_))))
  refine ⟨.inr rfl, yP [] (by rw [results135]) ?_ ?_ ?_⟩ <;> simp [hs]
 ·(try simp only [zB] at hc0)
  have hk : w.k = 3 := by omega
  have hs := yJf (pos := deep) (sub := sub) hk
  refine yL (yC (yD (yA rfl ?_)))
  refine yF ?_
  refine yE (yB (yC (yD (yD (yA rfl ?_)))))
  refine yF ?_
  refine yE (yB (yC (yH ?_)))
  refine xN (fun sl L (i : Nat) => ⟨setAll (setBad sl [0, 7, 8, 9, 10, 11, 12, 13, 14, 15, 16, 17, 18, 19, 20, 21, 22, 23, 24, 25, 26, 27, 28, 29, 30, 31]) [(5, .t (num (kL sub (w.l.take i)))), (6, .t (num i))], Go.Ot.look (L)⟩) (fun i => i ≤ w.l.length ∧ (d = 0 → i = 0)) (fun i => w.l.length - i) (0) (wF ?_) ?_ ?_
  ·refine yT ?_ ?_ ?_ <;> simp [gD]
  ·exact ⟨by omega, fun _ => rfl⟩
  ·intro i hi
   have hdf := cA (sub := sub) (B := 101) (l := w.l.take i) (by omega) (fun x _ => by have := hsub x; omega)
   refine vE ?_
   refine yD (yD (yA rfl ?_))
   have h5 : (i < w.l.length ∧ 0 < d) ∨ (i < w.l.length ∧ d = 0) ∨ i = w.l.length := by omega
   rcases h5 with ⟨h1, h2⟩ | ⟨h1, h2⟩ | h1
   ·skip
    iterate 6 refine yF ?_
    iterate 2 refine xB ?_
    refine yF ?_
    refine yE (yB (yC (xF (yL (yC (yD (yH (yA rfl ?_))))))))
    have hsb := hsub (w.l.getD i default)
    iterate 5 refine yF ?_
    refine yF (hc := by (rw [List.length_drop, Wr.cellsL_len]; omega)) ?_
    iterate 2 refine yF ?_
    refine yU [] false (IH h2 (w.l.getD i default) (by have := Wr.sz_mem (uR (l := w.l) (i := i) h1); omega)) ?_
    iterate 3 refine yF ?_
    refine yE (yB (yS (yC (yA rfl ?_))))
    iterate 3 refine yF ?_
    refine yE (yB ?_)
    refine xE (i + 1) (wF ?_) ?_ ?_
    ·refine yT ?_ ?_ ?_ <;> simp [yCL h1]
    ·exact ⟨by omega, fun h => by omega⟩
    ·(first | omega | (simp only []; omega))
   ·skip
    iterate 6 refine yF ?_
    iterate 2 refine xB ?_
    refine yF ?_
    refine yE (yB (yC (yJ (xQ (yM (yN (yK (yC (yD (yA rfl ?_))))))))))
    have he : pN deep sub w = kL sub (w.l.take i) := by
     rw [hs, hdeep]
     rcases Nat.eq_zero_or_pos d with h | h
     ·have := hi.2 h; subst this; simp [h, gD]
     ·have hil : i = w.l.length := by omega
      rw [hil, List.take_length]; simp [h]
    iterate 2 refine yF ?_
    refine yE (yB (yC (yO ?_)))
    refine ⟨.inr rfl, yP [] (by rw [results135]) ?_ ?_ ?_⟩ <;> simp [he]
   ·skip
    iterate 6 refine yF ?_
    iterate 2 refine wJ ?_
    refine yF ?_
    refine yE (yB (yC (yJ (xQ (yM (yN (yK (yC (yD (yA rfl ?_))))))))))
    have he : pN deep sub w = kL sub (w.l.take i) := by
     rw [hs, hdeep]
     rcases Nat.eq_zero_or_pos d with h | h
     ·have := hi.2 h; subst this; simp [h, gD]
     ·have hil : i = w.l.length := by omega
      rw [hil, List.take_length]; simp [h]
    iterate 2 refine yF ?_
    refine yE (yB (yC (yO ?_)))
    refine ⟨.inr rfl, yP [] (by rw [results135]) ?_ ?_ ?_⟩ <;> simp [he, h1, List.take_length]
theorem aZ (Γ : Gl) : ∀ (d : Nat), d ≤ 7 → ∀ w : Wr, w.sz ≤ 1000000 → Go.Ot.Good Γ prog 135 [wA w, .t (num d)] [] (.t (num (deepW d w))) [] []
 | 0, h, w, hw => by rw [deepW_z]; exact aY Γ 0 h false (by simp) (fun _ => 0) (fun _ => by omega) (fun h => by omega) w (by cases w with | mk k n s l => have := sz_l k n s l; simp only [Wr.l_mk]; omega) (by cases w with | mk k n s l => simp only [Wr.l_mk]; simp [Wr.sz] at hw; omega)
 | d + 1, h, w, hw => by rw [yJd]; exact aY Γ (d + 1) h true (by simp) (deepW d) (fun x => by have := deepW_le d x; omega) (fun _ w hw => by
   have := aZ Γ d (by omega) w hw
   rwa [show ((d + 1 : Nat) : Int) - 1 = (d : Int) from by omega]) w (by cases w with | mk k n s l => have := sz_l k n s l; simp only [Wr.l_mk]; omega) (by cases w with | mk k n s l => simp only [Wr.l_mk]; simp [Wr.sz] at hw; omega)
theorem yAj (Γ : Gl) (w : Wr) (hw : w.sz ≤ 1000000) : Go.Ot.Good Γ prog 100 [wA w] [] (.t (bol (mayW 6 w))) [] [] := by
 refine yR F.mix func100 (by rfl) ntmps100 ?_
 refine yD (yA rfl ?_)
 iterate 2 refine yF ?_
 refine yE (yB (yC (yD (yA rfl ?_))))
 rcases hm : mayW 6 w with _ | _
 all_goals (have hr := fU Γ 6 (by omega) w hw; rw [hm] at hr)
 all_goals (try have hd := deep_may 6 7 w hm)
 ·skip
  refine yF ?_
  refine yU [] false (hr) ?_
  refine yF ?_
  iterate 3 refine wJ ?_
  iterate 2 refine yF ?_
  refine yE (yB (yC (yO ?_)))
  refine ⟨.inr rfl, yP [] (by rw [results100]) ?_ ?_ ?_⟩ <;> simp
 ·skip
  refine yF ?_
  refine yU [] false (hr) ?_
  refine yF ?_
  refine xB ?_
  refine wT [] false (aZ Γ 7 (by omega) w hw) ?_
  refine xB ?_
  iterate 2 refine yF ?_
  refine yE (yB (yC (yO ?_)))
  refine ⟨.inr rfl, yP [] (by rw [results100]) ?_ ?_ ?_⟩ <;> simp [hd]
end Go.Proofs.Tryz
