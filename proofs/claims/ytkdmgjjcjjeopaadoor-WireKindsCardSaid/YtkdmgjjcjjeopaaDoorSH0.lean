/- Contracts of this program's functions. -/
import Derived.Test.YtkdmgjjcjjeopaaDoorSL0
set_option maxHeartbeats 4000000
set_option maxRecDepth 100000
set_option linter.unusedVariables false
set_option linter.unusedSimpArgs false
namespace Go.Proofs.Tryd
open Go Go.Ot

def nest : Nat → Wr → Wr
  | 0, w => w
  | i + 1, w => .mk 3 0 [] [nest i w]
def nestS : Nat → List UInt8 → List UInt8
  | 0, s => s
  | i + 1, s => [3, 0, 0, 0, 1] ++ nestS i s
theorem nest_z (w : Wr) : nest 0 w = w := rfl
theorem nest_s (i : Nat) (w : Wr) : nest (i + 1) w = .mk 3 0 [] [nest i w] := rfl
theorem nestS_z (s : List UInt8) : nestS 0 s = s := rfl
theorem nestS_s (i : Nat) (s : List UInt8) : nestS (i + 1) s = [3, 0, 0, 0, 1] ++ nestS i s := rfl
theorem nest_sz : ∀ (i : Nat) (w : Wr), (nest i w).sz = i + w.sz
  | 0, w => by simp [nest]
  | i + 1, w => by simp [nest, Wr.sz, Wr.szL, nest_sz i w]; omega
theorem nestS_len : ∀ (i : Nat) (s : List UInt8), (nestS i s).length = 5 * i + s.length
  | 0, s => by simp [nestS]
  | i + 1, s => by simp [nestS, nestS_len i s]; omega
def base : Nat → Wr
  | 0 => .mk 1 5 [] []
  | 1 => .mk 2 0 [116] []
  | _ => .mk 3 0 [] []
def chkD (j k : Nat) : Bool :=
  let W := nest k (base j); let s := nestS k (PutW (base j))
  if 6 < k + (if j = 2 then 1 else 0) then !mayW 6 W && (got s).isNone else mayW 6 W && decide (PutW W = s) && (match got s with | some x => sameW x W | none => false)
theorem chkD_all : ∀ j, j < 3 → ∀ k, k < 12 → chkD j k = true := by decide +kernel
theorem deep_no {j k : Nat} (hj : j < 3) (hk : k < 12) (h : 6 < k + (if j = 2 then 1 else 0)) : mayW 6 (nest k (base j)) = false ∧ got (nestS k (PutW (base j))) = none := by
  have := chkD_all j hj k hk
  simp only [chkD, if_pos h, Bool.and_eq_true, Bool.not_eq_true', Option.isNone_iff_eq_none] at this
  exact this
theorem deep_yes {j k : Nat} (hj : j < 3) (hk : k < 12) (h : ¬ 6 < k + (if j = 2 then 1 else 0)) : mayW 6 (nest k (base j)) = true ∧ PutW (nest k (base j)) = nestS k (PutW (base j)) ∧ got (nestS k (PutW (base j))) = some (nest k (base j)) := by
  have := chkD_all j hj k hk
  simp only [chkD, if_neg h, Bool.and_eq_true, decide_eq_true_eq] at this
  refine ⟨this.1.1, this.1.2, ?_⟩
  have h2 := this.2
  split at h2
  · rename_i x hx; rw [hx, (sameW_iff _ _).1 h2]
  · cases h2
theorem base_len : ∀ j, j < 3 → (PutW (base j)).length ≤ 20 := by decide +kernel
theorem base_sz : ∀ j, j < 3 → (base j).sz = 1 := by decide +kernel
theorem put_len_of {w : Wr} {B : Nat} (h : (PutW w).length ≤ B) (hm : mayW 6 w = true) : (putW 6 w).length ≤ B := by rwa [PutW_t hm] at h
theorem put_imp {w : Wr} {B : Nat} (h : (PutW w).length ≤ B) : mayW 6 w = true → (putW 6 w).length ≤ B := put_len_of h
/-! lists -/
def numsW (ns : List UInt8) : List Wr := ns.map fun a => .mk 1 a.toNat [] []
def txtsW (l : List (List UInt8)) : List Wr := l.map fun s => .mk 2 0 s []
@[push_cast] theorem numsW_len (ns : List UInt8) : (numsW ns).length = ns.length := by simp [numsW]
@[push_cast] theorem txtsW_len (l : List (List UInt8)) : (txtsW l).length = l.length := by simp [txtsW]
theorem cells_allNT (ns : List UInt8) (l : List (List UInt8)) : ((Wr.cellsL (numsW ns ++ txtsW l)).map D.t).take ((ns.length + l.length) * 4) = (Wr.cellsL (numsW ns ++ txtsW l)).map D.t := cells_all (by rw [List.length_append, numsW_len, txtsW_len]; exact Nat.le_refl _)
theorem cells_app3 (a b : List Wr) (w : Wr) : (Wr.cellsL (a ++ (b ++ [w]))).map D.t = (Wr.cellsL (a ++ b)).map D.t ++ wC w := by rw [← List.append_assoc]; exact cells_app _ _
theorem numsW_nil : numsW [] = [] := rfl
theorem txtsW_nil : txtsW [] = [] := rfl
theorem numsW_next {ns : List UInt8} {i : Nat} (h : i < ns.length) : numsW (ns.take (i + 1)) = numsW (ns.take i) ++ [.mk 1 (ns.getD i 0).toNat [] []] := by
  have e : ns.getD i 0 = ns[i] := by simp [List.getD_eq_getElem?_getD, List.getElem?_eq_getElem h]
  rw [List.take_add_one, List.getElem?_eq_getElem h, numsW, List.map_append, e]; rfl
theorem txtsW_next {l : List (List UInt8)} {i : Nat} (h : i < l.length) : txtsW (l.take (i + 1)) = txtsW (l.take i) ++ [.mk 2 0 (l.getD i []) []] := by
  have e : l.getD i [] = l[i] := by simp [List.getD_eq_getElem?_getD, List.getElem?_eq_getElem h]
  rw [List.take_add_one, List.getElem?_eq_getElem h, txtsW, List.map_append, e]; rfl
def tsz (l : List (List UInt8)) : Nat := (l.map fun s => 5 + s.length).sum
theorem tsz_nil : tsz [] = 0 := rfl
theorem tsz_next {l : List (List UInt8)} {i : Nat} (h : i < l.length) : tsz (l.take (i + 1)) = tsz (l.take i) + 5 + (l.getD i []).length := by
  have e : l.getD i [] = l[i] := by simp [List.getD_eq_getElem?_getD, List.getElem?_eq_getElem h]
  rw [List.take_add_one, List.getElem?_eq_getElem h, tsz, List.map_append, List.sum_append, e]
  simp only [Option.toList_some, List.map_cons, List.map_nil, List.sum_cons, List.sum_nil, tsz]; omega
theorem tsz_le : ∀ {l : List (List UInt8)}, (∀ s ∈ l, s.length ≤ 100) → tsz l ≤ 105 * l.length
  | [], _ => by simp [tsz]
  | s :: l, h => by
    have h1 := h s (by simp)
    have h2 := tsz_le (l := l) (fun x hx => h x (by simp [hx]))
    simp only [tsz, List.map_cons, List.sum_cons, List.length_cons] at h2 ⊢
    omega
theorem szL_nums : ∀ ns : List UInt8, Wr.szL (numsW ns) = ns.length
  | [] => rfl
  | a :: ns => by have := szL_nums ns; simp only [numsW, List.map_cons, Wr.szL, Wr.sz, List.length_cons] at this ⊢; omega
theorem szL_txts : ∀ l : List (List UInt8), Wr.szL (txtsW l) = l.length
  | [] => rfl
  | a :: l => by have := szL_txts l; simp only [txtsW, List.map_cons, Wr.szL, Wr.sz, List.length_cons] at this ⊢; omega
theorem szL_app : ∀ a b : List Wr, Wr.szL (a ++ b) = Wr.szL a + Wr.szL b
  | [], b => by simp [Wr.szL]
  | w :: a, b => by simp [Wr.szL, szL_app a b]; omega
abbrev allW (ns : List UInt8) (l : List (List UInt8)) : Wr := .mk 3 0 [] (numsW ns ++ txtsW l)
theorem all_may {ns : List UInt8} {l : List (List UInt8)} (h1 : ns.length ≤ 40) (h2 : l.length ≤ 30) (h3 : ∀ s ∈ l, s.length ≤ 100) : mayW 6 (allW ns l) = true := by
  show mayS true (mayW 5) _ = true
  rw [allW, mayS_3]
  simp only [Bool.and_eq_true, decide_eq_true_eq, List.all_eq_true]
  refine ⟨⟨⟨⟨by simp, by simp⟩, by simp⟩, by simp [numsW, txtsW]; omega⟩, fun x hx => ?_⟩
  rcases List.mem_append.1 hx with hx | hx
  · obtain ⟨a, _, rfl⟩ := List.mem_map.1 hx; rfl
  · obtain ⟨s, hs, rfl⟩ := List.mem_map.1 hx
    show mayS true (mayW 4) _ = true
    rw [mayS_2]; have := h3 s hs; simp; omega
theorem all_rng {ns : List UInt8} {l : List (List UInt8)} : rangeW 6 (allW ns l) := by
  refine ⟨by omega, fun x hx => ?_⟩
  rcases List.mem_append.1 hx with hx | hx
  · obtain ⟨a, _, rfl⟩ := List.mem_map.1 hx
    have := UInt8.toNat_lt a
    exact ⟨by omega, fun x hx => by cases hx⟩
  · obtain ⟨s, hs, rfl⟩ := List.mem_map.1 hx
    exact ⟨by omega, fun x hx => by cases hx⟩
theorem all_len {ns : List UInt8} {l : List (List UInt8)} (h1 : ns.length ≤ 40) (h2 : l.length ≤ 30) (h3 : ∀ s ∈ l, s.length ≤ 100) : (PutW (allW ns l)).length = 5 + 9 * ns.length + tsz l := by
  rw [PutW_t (all_may h1 h2 h3)]
  show (putS (putW 5) _).length = _
  rw [allW, putS_3, List.length_cons, List.length_append, nb_len, List.flatMap_append, List.length_append]
  have e1 : ∀ ns : List UInt8, ((numsW ns).flatMap (putW 5)).length = 9 * ns.length := by
    intro ns
    induction ns with
    | nil => rfl
    | cons a ns ih =>
      have : (putW 5 (.mk 1 a.toNat [] [])).length = 9 := by show (putS (putW 4) _).length = 9; rw [putS_1, List.length_cons, nb_len]
      simp only [numsW, List.map_cons, List.flatMap_cons, List.length_append, List.length_cons] at ih ⊢
      rw [ih, this]; omega
  have e2 : ∀ l : List (List UInt8), ((txtsW l).flatMap (putW 5)).length = tsz l := by
    intro l
    induction l with
    | nil => rfl
    | cons a l ih =>
      have : (putW 5 (.mk 2 0 a [])).length = 5 + a.length := by show (putS (putW 4) _).length = _; rw [putS_2, List.length_cons, List.length_append, nb_len]; omega
      simp only [txtsW, List.map_cons, List.flatMap_cons, List.length_append, tsz, List.sum_cons] at ih ⊢
      rw [ih, this]
  rw [e1, e2]; omega
theorem mem_take_next {l : List (List UInt8)} {j : Nat} (h : ∀ s ∈ l.take j, s.length ≤ 100) (hj : j < l.length) (h2 : (l.getD j []).length ≤ 100) : ∀ s ∈ l.take (j + 1), s.length ≤ 100 := by
  intro s hs
  rw [List.take_add_one, List.getElem?_eq_getElem hj] at hs
  rcases List.mem_append.1 hs with hs | hs
  · exact h s hs
  · have e : l.getD j [] = l[j] := by simp [List.getD_eq_getElem?_getD, List.getElem?_eq_getElem hj]
    simp at hs; rw [hs, ← e]; exact h2

end Go.Proofs.Tryd
