/- Contracts of this program's functions. -/
import Derived.Test.YtkdmgjjcjjeopaaDoorSG1
import Derived.Test.YtkdmgjjcjjeopaaDoorSU1
import Derived.Test.YtkdmgjjcjjeopaaDoorSU2
import Derived.Test.YtkdmgjjcjjeopaaDoorSS1
import Derived.Test.YtkdmgjjcjjeopaaDoorSC1
set_option maxHeartbeats 4000000
set_option maxRecDepth 100000
set_option linter.unusedVariables false
set_option linter.unusedSimpArgs false
namespace Go.Proofs.Tryd
open Go Go.Ot

attribute [push_cast] cellsL_cons' Option.getD_some Option.getD_none
theorem got_PutW {w : Wr} (h : mayW 6 w = true) (hr : rangeW 6 w) : got (PutW w) = some w := by rw [PutW_t h]; exact got_put h hr
theorem may_sz : ∀ (d : Nat) (w : Wr), mayW d w = true → w.sz ≤ (putW d w).length := by
  have key : ∀ (deep : Bool) (sub : Wr → Bool) (put : Wr → List UInt8), (∀ w, sub w = true → w.sz ≤ (put w).length) → ∀ w, mayS deep sub w = true → w.sz ≤ (putS put w).length := by
    intro deep sub put h w hm
    cases w with
    | mk k n s l =>
      rcases mayS_k hm with rfl | ⟨rfl, hs⟩ | ⟨rfl, hl, hml⟩
      · rw [mayS_1] at hm
        simp only [Bool.and_eq_true, decide_eq_true_eq] at hm
        have : l = [] := List.eq_nil_of_length_eq_zero hm.2
        subst this
        rw [putS_1]; simp [Wr.sz, Wr.szL]
      · rw [mayS_2] at hm
        simp only [Bool.and_eq_true, decide_eq_true_eq] at hm
        have : l = [] := List.eq_nil_of_length_eq_zero hm.1.2
        subst this
        rw [putS_2]; simp [Wr.sz, Wr.szL]
      · rw [putS_3]
        have : ∀ l : List Wr, (∀ w ∈ l, sub w = true) → Wr.szL l ≤ (l.flatMap put).length := by
          intro l
          induction l with
          | nil => intro _; simp [Wr.szL]
          | cons a l ih =>
            intro hl
            have h1 := h a (hl a (by simp))
            have h2 := ih (fun w hw => hl w (by simp [hw]))
            simp only [Wr.szL, List.flatMap_cons, List.length_append]
            omega
        have := this l hml
        simp only [Wr.sz, List.length_cons, List.length_append, nb_len]
        omega
  intro d
  induction d with
  | zero => exact key false (fun _ => false) (fun _ => []) (fun w h => by cases h)
  | succ d ih => exact key true (mayW d) (putW d) ih
theorem got_sz {s : List UInt8} {w : Wr} (h : got s = some w) : w.sz ≤ s.length := by
  obtain ⟨h1, _, h2⟩ := got_get h
  have := may_sz 6 w h1
  rw [← h2] at this
  exact this
def W0 : Wr := .mk 3 0 [] [.mk 2 0 [97] [], .mk 1 (-2) [] []]
theorem W0_may : mayW 6 W0 = true := by decide +kernel
theorem W0_put : (putW 6 W0).length ≤ 1000 := by decide +kernel
theorem W0_len : (PutW W0).length ≤ 1000000 := by rw [PutW_t W0_may]; have := W0_put; omega
theorem W0_got : got (PutW W0) = some W0 := got_PutW W0_may (by simp [W0, rangeW, rangeS])
theorem W0_eq : wA W0 = .agg [.t (num 3), .t (num 0), .t (txt []), .t (.sl 2 [num 2, num 0, txt [97], .sl 0 [], num 1, num (-2), txt [], .sl 0 []])] := rfl
theorem N1_put : PutW (.mk 1 1 [] []) = [1, 0, 0, 0, 0, 0, 0, 0, 1] := by decide +kernel
theorem num_may (n : Int) : mayW 6 (.mk 1 n [] []) = true := rfl
theorem num_put (n : Int) : PutW (.mk 1 n [] []) = 1 :: nb 8 (u64 n) := by rw [PutW_t (num_may n)]; exact putS_1
theorem num_plen (n : Int) : (PutW (.mk 1 n [] [])).length = 9 := by rw [num_put, List.length_cons, nb_len]
theorem num_got {n : Int} (h : -9223372036854775808 ≤ n) (h2 : n ≤ 9223372036854775807) : got (PutW (.mk 1 n [] [])) = some (.mk 1 n [] []) := got_PutW (num_may n) (by simp [rangeW, rangeS]; omega)
theorem txt_may {s : List UInt8} (h : s.length ≤ 1048576) : mayW 6 (.mk 2 0 s []) = true := by show mayS true (mayW 5) _ = true; rw [mayS_2]; simp [h]
theorem txt_put {s : List UInt8} (h : s.length ≤ 1048576) : PutW (.mk 2 0 s []) = 2 :: (nb 4 s.length ++ s) := by rw [PutW_t (txt_may h)]; exact putS_2
theorem txt_plen {s : List UInt8} (h : s.length ≤ 1048576) : (PutW (.mk 2 0 s [])).length = s.length + 5 := by rw [txt_put h, List.length_cons, List.length_append, nb_len]; omega
theorem txt_got {s : List UInt8} (h : s.length ≤ 1048576) : got (PutW (.mk 2 0 s [])) = some (.mk 2 0 s []) := got_PutW (txt_may h) (by simp [rangeW, rangeS])
theorem got_take {p : List UInt8} {w : Wr} {c : Nat} (h : got p = some w) (hc : c < p.length) : got (p.take c) = none :=
  got_cut (s := p.take c) (t := p.drop c) (w := w) (by rw [List.take_append_drop]; exact h) (fun e => by have := congrArg List.length e; simp at this; omega)
theorem tmod_max {c n m : Nat} (h : m = n) (h1 : 1 ≤ n) : ((c : Nat) : Int).tmod (max 1 ((m : Nat) : Int)) = ((c % n : Nat) : Int) := by
  subst h
  rw [show max 1 ((m : Nat) : Int) = ((m : Nat) : Int) from by omega, Int.tmod_eq_emod_of_nonneg (by omega)]
  exact (Int.natCast_emod c m).symm
theorem tmod_nat (c n : Nat) : ((c : Nat) : Int).tmod ((n : Nat) : Int) = ((c % n : Nat) : Int) := by
  rw [Int.tmod_eq_emod_of_nonneg (by omega)]
  exact (Int.natCast_emod c n).symm
theorem cells_all {l : List Wr} {n : Nat} (h : l.length * 4 ≤ n) : ((Wr.cellsL l).map D.t).take n = (Wr.cellsL l).map D.t := List.take_of_length_le (by rw [List.length_map, Wr.cellsL_len]; exact h)
theorem PutW_small {w : Wr} {B : Nat} (h : (putW 6 w).length ≤ B) : (PutW w).length ≤ B := by
  cases e : mayW 6 w with
  | true => rw [PutW_t e]; exact h
  | false => rw [PutW_f e]; simp

end Go.Proofs.Tryd
