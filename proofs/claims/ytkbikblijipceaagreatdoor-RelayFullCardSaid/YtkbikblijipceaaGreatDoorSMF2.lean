/- Contracts of this program's functions. -/
import Derived.Test.YtkbikblijipceaaGreatDoorSME8
set_option maxHeartbeats 4000000
set_option maxRecDepth 100000
set_option linter.unusedVariables false
set_option linter.unusedSimpArgs false
namespace Go.Proofs.Tryz
open Go Go.Ot
def inR (l : List Rc) (n d : Int) : Nat → Bool
 | 0 => false
 | j + 1 => if (l.getD j default).seq ≤ n ∧ (l.getD j default).dev = d ∧ ((l.getD j default).kind = 1 ∨ (l.getD j default).kind = 2) then decide ((l.getD j default).kind = 1) else inR l n d j
theorem inR_0 (l : List Rc) (n d : Int) : inR l n d 0 = false := rfl
theorem inR_y {l : List Rc} {n d : Int} {j : Nat} (h1 : (l.getD j default).seq ≤ n) (h2 : (l.getD j default).dev = d) (h3 : (l.getD j default).kind = 1) : inR l n d (j + 1) = true := by rw [inR, if_pos ⟨h1, h2, .inl h3⟩, decide_eq_true h3]
theorem inR_n {l : List Rc} {n d : Int} {j : Nat} (h1 : (l.getD j default).seq ≤ n) (h2 : (l.getD j default).dev = d) (h3 : (l.getD j default).kind ≠ 1) (h4 : (l.getD j default).kind = 2) : inR l n d (j + 1) = false := by rw [inR, if_pos ⟨h1, h2, .inr h4⟩, decide_eq_false h3]
theorem yIQ {l : List Rc} {n d : Int} {j : Nat} (h : ¬ ((l.getD j default).seq ≤ n ∧ (l.getD j default).dev = d ∧ ((l.getD j default).kind = 1 ∨ (l.getD j default).kind = 2))) : inR l n d (j + 1) = inR l n d j := by rw [inR, if_neg h]
def inB (l : List Rc) (n d : Int) : Bool := inR l n d l.length && (decide (0 ≤ d) && decide (d < 8))
theorem yHv {log : List Rc} {i : Nat} (hi : i ≤ log.length) (hok : ∀ j, j < i → chC log (inF log j) j = 0) (d : Int) : ∀ j, j ≤ i → inR (log.take i) i d j = (inF log j).contains d
 | 0, _ => rfl
 | j + 1, h => by
  have ih := yHv hi hok d j (by omega)
  have e : (log.take i).getD j default = log.getD j default := by simp [List.getD_eq_getElem?_getD, List.getElem?_take, show j < i from h]
  obtain ⟨hp, ⟨h1, _⟩, _⟩ := kD (hok j (by omega))
  have hk := hp.2.2.2.1
  have hs : (log.getD j default).seq ≤ (i : Int) := by omega
  rw [inR, e, ih]
  by_cases hd : (log.getD j default).dev = d
  ·rw [if_pos ⟨hs, hd, hk⟩]
   by_cases hk1 : (log.getD j default).kind = 1
   ·rw [pI hk1, decide_eq_true hk1, hd]; simp
   ·rw [hC hk1, decide_eq_false hk1, hd]; symm; simp [fl]
  ·rw [if_neg (fun h => hd h.2.1)]
   by_cases hk1 : (log.getD j default).kind = 1
   ·rw [pI hk1]
    rcases e : (inF log j).contains d with _ | _
    ·symm; rw [Bool.eq_false_iff] at e ⊢; intro h; apply e; rw [List.contains_iff_mem] at h ⊢; rcases List.mem_append.1 h with h | h
     ·exact h
     ·exact absurd (List.mem_singleton.1 h).symm hd
    ·symm; rw [List.contains_iff_mem] at e ⊢; exact List.mem_append.2 (.inl e)
   ·rw [hC hk1]
    rcases e : (inF log j).contains d with _ | _
    ·symm; rw [Bool.eq_false_iff] at e ⊢; intro h; apply e; rw [List.contains_iff_mem] at h ⊢; exact (List.mem_filter.1 h).1
    ·symm; rw [List.contains_iff_mem] at e ⊢; exact List.mem_filter.2 ⟨e, decide_eq_true (fun h => hd h.symm)⟩
theorem yBO {log : List Rc} {i : Nat} (hi : i ≤ log.length) (hok : ∀ j, j < i → chC log (inF log j) j = 0) {d : Int} (h0 : 0 ≤ d ∧ d < 8) : inB (log.take i) i d = (inF log i).contains d := by
 rw [inB, List.length_take, Nat.min_eq_left hi, yHv hi hok d i (Nat.le_refl _), decide_eq_true h0.1, decide_eq_true h0.2, Bool.and_true, Bool.and_true]
theorem dH {log : List Rc} {i : Nat} (hi : i ≤ log.length) : (log.flatMap rcT).take (i * 6) = (log.take i).flatMap rcT := by
 have e : log.flatMap rcT = (log.take i).flatMap rcT ++ (log.drop i).flatMap rcT := by rw [← List.flatMap_append, List.take_append_drop]
 rw [e]
 exact List.take_left' (by rw [uB, List.length_take, Nat.min_eq_left hi])
theorem yIy {log : List Rc} {i : Nat} {r : Rc} (h : log.getD i default = r) : vG log (i + 1) = hsh r := by rw [vG, h]
end Go.Proofs.Tryz

namespace Go.Proofs.Tryz
open Go Go.Ot
attribute [local simp] num bol txt w8 w16 w32 w64 lst cls xZ xR List.take_of_length_le
attribute [local irreducible] wpK wpS uE wH wV wN wZ xD Le rcF hsh inF chC mwB lkT fl inR
theorem uQ (Γ : Gl) (log : List Rc) (n d : Int) (hl : log.length ≤ 1000000) : Go.Ot.Good Γ prog 20 [.t (.sl log.length (log.flatMap rcT)), .t (num n), .t (num d)] [] (.t (bol (inB log n d))) [] [] := by
 refine yR F.mix func20 (by rfl) ntmps20 ?_
 refine yD (yA rfl ?_)
 refine yF ?_
 refine yE (yB (yC (yD (yA rfl ?_))))
 refine yF ?_
 refine yE (yB (yC (yD (yD (yA rfl ?_)))))
 refine yF ?_
 refine yE (yB (yC (yH ?_)))
 refine xN (fun sl L (i : Nat) => ⟨setAll (setBad sl [9, 10, 11, 12, 13, 14, 15, 16, 17, 18, 19, 20, 21, 22, 23, 24, 25, 26, 27, 28, 29, 30, 31, 32, 33, 34, 35, 36, 37, 38, 39, 40, 41, 42, 43, 44, 45, 46, 47, 48, 49, 50, 51, 52]) [(7, .t (bol (inR log n d i))), (8, .t (num i))], Go.Ot.look (L)⟩) (fun i => i ≤ log.length) (fun i => log.length - i) (0) (wF ?_) ?_ ?_
 ·refine yT ?_ ?_ ?_ <;> simp [rcT, wpT, inR_0]
 ·(first | omega | simp)
 ·intro i hi
  refine vE ?_
  refine yD (yD (yA rfl ?_))
  iterate 4 refine yF ?_
  refine yE (yB (yC ?_))
  refine vL (fun hc0 => ?_) (fun hc0 => ?_)
  ·(try simp only [zB] at hc0)
   refine yL (yC (yD (yH (yD (yA rfl ?_)))))
   rcases (show ¬ (log.getD i default).seq ≤ n ∨ ((log.getD i default).seq ≤ n ∧ (log.getD i default).dev ≠ d) ∨ ((log.getD i default).seq ≤ n ∧ (log.getD i default).dev = d ∧ (log.getD i default).kind = 1) ∨ ((log.getD i default).seq ≤ n ∧ (log.getD i default).dev = d ∧ (log.getD i default).kind ≠ 1 ∧ (log.getD i default).kind = 2) ∨ ((log.getD i default).seq ≤ n ∧ (log.getD i default).dev = d ∧ (log.getD i default).kind ≠ 1 ∧ (log.getD i default).kind ≠ 2) by omega) with g1 | ⟨g1, g2⟩ | ⟨g1, g2, g3⟩ | ⟨g1, g2, g3, g4⟩ | ⟨g1, g2, g3, g4⟩
   ·have hn := yIQ (l := log) (n := n) (d := d) (j := i) (fun h => g1 h.1)
    iterate 8 refine yF ?_
    iterate 7 refine wJ ?_
    iterate 2 refine yF ?_
    iterate 14 refine wJ ?_
    refine yF ?_
    refine yE (yB (yC (yJ (yL (yS (yC (yA rfl ?_)))))))
    iterate 3 refine yF ?_
    refine yE (yB ?_)
    refine xE (i + 1) (wF ?_) ?_ ?_
    ·refine yT ?_ ?_ ?_ <;> simp [rcT, wpT, hn]
    ·(first | omega | (simp_all <;> omega))
    ·(first | omega | (simp only []; omega))
   ·have hn := yIQ (l := log) (n := n) (d := d) (j := i) (fun h => g2 h.2.1)
    iterate 8 refine yF ?_
    iterate 7 refine xB ?_
    iterate 2 refine yF ?_
    iterate 14 refine wJ ?_
    refine yF ?_
    refine yE (yB (yC (yJ (yL (yS (yC (yA rfl ?_)))))))
    iterate 3 refine yF ?_
    refine yE (yB ?_)
    refine xE (i + 1) (wF ?_) ?_ ?_
    ·refine yT ?_ ?_ ?_ <;> simp [rcT, wpT, hn]
    ·(first | omega | (simp_all <;> omega))
    ·(first | omega | (simp only []; omega))
   ·have hn := inR_y g1 g2 g3
    iterate 8 refine yF ?_
    iterate 7 refine xB ?_
    iterate 2 refine yF ?_
    iterate 7 refine xB ?_
    iterate 6 refine wJ ?_
    refine xB ?_
    refine yF ?_
    refine yE (yB (yC (xF (yA rfl ?_))))
    iterate 7 refine yF ?_
    refine yE (yB (yS (yC (yA rfl ?_))))
    iterate 3 refine yF ?_
    refine yE (yB ?_)
    refine xE (i + 1) (wF ?_) ?_ ?_
    ·refine yT ?_ ?_ ?_ <;> simp [rcT, wpT, hn]
    ·(first | omega | (simp_all <;> omega))
    ·(first | omega | (simp only []; omega))
   ·have hn := inR_n g1 g2 g3 g4
    iterate 8 refine yF ?_
    iterate 7 refine xB ?_
    iterate 2 refine yF ?_
    iterate 14 refine xB ?_
    refine yF ?_
    refine yE (yB (yC (xF (yA rfl ?_))))
    iterate 7 refine yF ?_
    refine yE (yB (yS (yC (yA rfl ?_))))
    iterate 3 refine yF ?_
    refine yE (yB ?_)
    refine xE (i + 1) (wF ?_) ?_ ?_
    ·refine yT ?_ ?_ ?_ <;> simp [rcT, wpT, hn]
    ·(first | omega | (simp_all <;> omega))
    ·(first | omega | (simp only []; omega))
   ·have hn := yIQ (l := log) (n := n) (d := d) (j := i) (fun h => by rcases h.2.2 with h | h; exact g3 h; exact g4 h)
    iterate 8 refine yF ?_
    iterate 7 refine xB ?_
    iterate 2 refine yF ?_
    iterate 14 refine xB ?_
    refine yF ?_
    refine yE (yB (yC (yJ (yL (yS (yC (yA rfl ?_)))))))
    iterate 3 refine yF ?_
    refine yE (yB ?_)
    refine xE (i + 1) (wF ?_) ?_ ?_
    ·refine yT ?_ ?_ ?_ <;> simp [rcT, wpT, hn]
    ·(first | omega | (simp_all <;> omega))
    ·(first | omega | (simp only []; omega))
  ·(try simp only [zB] at hc0)
   refine xQ (yM (yN (yK (yC (yD (yA rfl ?_))))))
   have hil : i = log.length := by omega
   subst hil
   rcases hb : inR log n d log.length with _ | _
   rotate_left 1
   rcases (show d < 0 ∨ (0 ≤ d ∧ 8 ≤ d) ∨ (0 ≤ d ∧ d < 8) by omega) with k1 | ⟨k1, k2⟩ | ⟨k1, k2⟩
   rotate_left 3
   ·have hq : inB log n d = false := by rw [inB, hb]; rfl
    iterate 2 refine yF ?_
    iterate 2 refine wJ ?_
    iterate 2 refine yF ?_
    iterate 2 refine wJ ?_
    iterate 2 refine yF ?_
    refine yE (yB (yC (yO ?_)))
    refine ⟨.inr rfl, yP [] (by rw [results20]) ?_ ?_ ?_⟩ <;> simp [rcT, wpT, hq]
   ·have hq : inB log n d = false := by rw [inB, hb, decide_eq_false (by omega)]; rfl
    iterate 2 refine yF ?_
    iterate 2 refine xB ?_
    iterate 2 refine yF ?_
    iterate 2 refine wJ ?_
    iterate 2 refine yF ?_
    refine yE (yB (yC (yO ?_)))
    refine ⟨.inr rfl, yP [] (by rw [results20]) ?_ ?_ ?_⟩ <;> simp [rcT, wpT, hq]
   ·have hq : inB log n d = false := by rw [inB, hb, decide_eq_true k1, decide_eq_false (by omega)]; rfl
    iterate 2 refine yF ?_
    iterate 2 refine xB ?_
    iterate 2 refine yF ?_
    iterate 2 refine xB ?_
    iterate 2 refine yF ?_
    refine yE (yB (yC (yO ?_)))
    refine ⟨.inr rfl, yP [] (by rw [results20]) ?_ ?_ ?_⟩ <;> simp [rcT, wpT, hq]
   ·have hq : inB log n d = true := by rw [inB, hb, decide_eq_true k1, decide_eq_true k2]; rfl
    iterate 2 refine yF ?_
    iterate 2 refine xB ?_
    iterate 2 refine yF ?_
    iterate 2 refine xB ?_
    iterate 2 refine yF ?_
    refine yE (yB (yC (yO ?_)))
    refine ⟨.inr rfl, yP [] (by rw [results20]) ?_ ?_ ?_⟩ <;> simp [rcT, wpT, hq]
end Go.Proofs.Tryz
