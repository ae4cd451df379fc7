/- Contracts of this program's functions. -/
import Derived.Test.YtppicdhlpdhoiaaDoorSU0
import Derived.Test.YtppicdhlpdhoiaaDoorSC1
set_option maxHeartbeats 4000000
set_option maxRecDepth 100000
set_option linter.unusedVariables false
set_option linter.unusedSimpArgs false
namespace Go.Proofs.Tryd
open Go Go.Ot

attribute [push_cast] Option.getD_some Option.getD_none
theorem got_PutW {w : Wr} (h : mayW 6 w = true) (hr : rangeW 6 w) : got (PutW w) = some w := by rw [PutW_t h]; exact got_put h hr
theorem may_sz : ∀ (d : Nat) (w : Wr), mayW d w = true → w.sz ≤ (putW d w).length := by
 have key : ∀ (deep : Bool) (sub : Wr → Bool) (put : Wr → List UInt8), (∀ w, sub w = true → w.sz ≤ (put w).length) → ∀ w, mayS deep sub w = true → w.sz ≤ (putS put w).length := by
  intro deep sub put h w hm
  cases w with
  | mk k n s l =>
   rcases mayS_k hm with rfl | ⟨rfl, hs⟩ | ⟨rfl, hl, hml⟩
   ·rw [mayS_1] at hm
    simp only [Bool.and_eq_true, decide_eq_true_eq] at hm
    have : l = [] := List.eq_nil_of_length_eq_zero hm.2
    subst this
    rw [putS_1]; simp [Wr.sz, Wr.szL]
   ·rw [mayS_2] at hm
    simp only [Bool.and_eq_true, decide_eq_true_eq] at hm
    have : l = [] := List.eq_nil_of_length_eq_zero hm.1.2
    subst this
    rw [putS_2]; simp [Wr.sz, Wr.szL]
   ·rw [putS_3]
    have : ∀ l : List Wr, (∀ w ∈ l, sub w = true) → Wr.szL l ≤ (l.flatMap put).length := by
     intro l
     induction l with
     | nil => intro _; simp [Wr.szL]
     | cons a l ih =>
      intro hl
      have h1 := h a (hl a (by simp))
      have h2 := ih (fun w hw => hl w (by simp [hw]))
      simp only [Wr.szL, List.flatMap_cons, List.length_append]
      omega
    have := this l hml
    simp only [Wr.sz, List.length_cons, List.length_append, nb_len]
    omega
 intro d
 induction d with
 | zero => exact key false (fun _ => false) (fun _ => []) (fun w h => by cases h)
 | succ d ih => exact key true (mayW d) (putW d) ih
theorem got_sz {s : List UInt8} {w : Wr} (h : got s = some w) : w.sz ≤ s.length := by
 obtain ⟨h1, _, h2⟩ := got_get h
 have := may_sz 6 w h1
 rw [← h2] at this
 exact this
theorem num_may (n : Int) : mayW 6 (.mk 1 n [] []) = true := rfl
theorem num_put (n : Int) : PutW (.mk 1 n [] []) = 1 :: nb 8 (u64 n) := by rw [PutW_t (num_may n)]; exact putS_1
theorem num_plen (n : Int) : (PutW (.mk 1 n [] [])).length = 9 := by rw [num_put, List.length_cons, nb_len]
theorem num_got {n : Int} (h : -9223372036854775808 ≤ n) (h2 : n ≤ 9223372036854775807) : got (PutW (.mk 1 n [] [])) = some (.mk 1 n [] []) := got_PutW (num_may n) (by simp [rangeW, rangeS]; omega)
theorem txt_may {s : List UInt8} (h : s.length ≤ 1048576) : mayW 6 (.mk 2 0 s []) = true := by show mayS true (mayW 5) _ = true; rw [mayS_2]; simp [h]
theorem txt_put {s : List UInt8} (h : s.length ≤ 1048576) : PutW (.mk 2 0 s []) = 2 :: (nb 4 s.length ++ s) := by rw [PutW_t (txt_may h)]; exact putS_2
theorem txt_plen {s : List UInt8} (h : s.length ≤ 1048576) : (PutW (.mk 2 0 s [])).length = s.length + 5 := by rw [txt_put h, List.length_cons, List.length_append, nb_len]; omega
theorem txt_got {s : List UInt8} (h : s.length ≤ 1048576) : got (PutW (.mk 2 0 s [])) = some (.mk 2 0 s []) := got_PutW (txt_may h) (by simp [rangeW, rangeS])
theorem got_take {p : List UInt8} {w : Wr} {c : Nat} (h : got p = some w) (hc : c < p.length) : got (p.take c) = none :=
 got_cut (s := p.take c) (t := p.drop c) (w := w) (by rw [List.take_append_drop]; exact h) (fun e => by have := congrArg List.length e; simp at this; omega)
theorem tmod_max {c n m : Nat} (h : m = n) (h1 : 1 ≤ n) : ((c : Nat) : Int).tmod (max 1 ((m : Nat) : Int)) = ((c % n : Nat) : Int) := by
 subst h
 rw [show max 1 ((m : Nat) : Int) = ((m : Nat) : Int) from by omega, Int.tmod_eq_emod_of_nonneg (by omega)]
 exact (Int.natCast_emod c m).symm
theorem tmod_nat (c n : Nat) : ((c : Nat) : Int).tmod ((n : Nat) : Int) = ((c % n : Nat) : Int) := by
 rw [Int.tmod_eq_emod_of_nonneg (by omega)]
 exact (Int.natCast_emod c n).symm
theorem cells_all {l : List Wr} {n : Nat} (h : l.length * 4 ≤ n) : ((Wr.cellsL l).map D.t).take n = (Wr.cellsL l).map D.t := List.take_of_length_le (by rw [List.length_map, Wr.cellsL_len]; exact h)
theorem PutW_small {w : Wr} {B : Nat} (h : (putW 6 w).length ≤ B) : (PutW w).length ≤ B := by
 cases e : mayW 6 w with
 | true => rw [PutW_t e]; exact h
 | false => rw [PutW_f e]; simp

@[push_cast] theorem cellsL_consG (w : Wr) (l : List Wr) : Wr.cellsL (w :: l) = num w.k :: num w.n :: txt w.s :: .sl w.l.length (Wr.cellsL w.l) :: Wr.cellsL l := by cases w; rfl
theorem got_more {w : Wr} {m : UInt8} (h : mayW 6 w = true) (hr : rangeW 6 w) : got (PutW w ++ [m]) = none := by
 rw [PutW_t h]
 have := getW_put 6 w [m] h hr
 exact got_2 this
theorem PutW_ne {w : Wr} (h : mayW 6 w = true) : PutW w ≠ [] := by
 intro e
 rw [PutW_t h] at e
 have := may_sz 6 w h
 have hp := w.sz_pos
 rw [e] at this
 simp at this; omega
theorem set_ne {l : List UInt8} {i : Nat} {b : UInt8} (hi : i < l.length) (hb : b ≠ 0) : l.set i (l.getD i 0 ^^^ b) ≠ l := by
 intro e
 have h1 : (l.set i (l.getD i 0 ^^^ b))[i]? = l[i]? := by rw [e]
 rw [List.getElem?_set_self hi, List.getElem?_eq_getElem hi] at h1
 have h2 : l.getD i 0 = l[i] := by simp [List.getD_eq_getElem?_getD, List.getElem?_eq_getElem hi]
 rw [h2] at h1
 have h3 : l[i] ^^^ b = l[i] := Option.some.inj h1
 exact hb (by
  have : l[i] ^^^ (l[i] ^^^ b) = l[i] ^^^ l[i] := by rw [h3]
  rwa [← UInt8.xor_assoc, UInt8.xor_self, UInt8.zero_xor] at this)
theorem got_nil : got [] = none := by rw [got_def]; rfl
theorem cells_allZ {l : List Wr} {n : Nat} (h : l.length = n) : ((Wr.cellsL l).map D.t).take (n * 4) = (Wr.cellsL l).map D.t := cells_all (by omega)
theorem put_imp {w : Wr} {B : Nat} (h : (PutW w).length ≤ B) : mayW 6 w = true → (putW 6 w).length ≤ B := fun hm => by rwa [PutW_t hm] at h
@[push_cast] theorem cls_headZ {α : Type} {f : α → T} {l : List α} [Inhabited α] (h : 0 < l.length) : ((l.map f).map D.t).headD .bad = .t (f (l.getD 0 default)) := by
 have := cls_head (f := f) (l := l) (i := 0) h
 rwa [List.drop_zero] at this
/-! lists of texts -/
def txtsW (l : List (List UInt8)) : List Wr := l.map fun s => .mk 2 0 s []
@[push_cast] theorem txtsW_len (l : List (List UInt8)) : (txtsW l).length = l.length := by simp [txtsW]
theorem cells_allT (l : List (List UInt8)) : ((Wr.cellsL (txtsW l)).map D.t).take (l.length * 4) = (Wr.cellsL (txtsW l)).map D.t := cells_allZ (txtsW_len l)
theorem txtsW_nil : txtsW [] = [] := rfl
theorem txtsW_next {l : List (List UInt8)} {i : Nat} (h : i < l.length) : txtsW (l.take (i + 1)) = txtsW (l.take i) ++ [.mk 2 0 (l.getD i []) []] := by
 have e : l.getD i [] = l[i] := by simp [List.getD_eq_getElem?_getD, List.getElem?_eq_getElem h]
 rw [List.take_add_one, List.getElem?_eq_getElem h, txtsW, List.map_append, e]; rfl
theorem szL_txts : ∀ l : List (List UInt8), Wr.szL (txtsW l) = l.length
 | [] => rfl
 | a :: l => by have := szL_txts l; simp only [txtsW, List.map_cons, Wr.szL, Wr.sz, List.length_cons] at this ⊢; omega
def tsz (l : List (List UInt8)) : Nat := (l.map fun s => 5 + s.length).sum
theorem tsz_nil : tsz [] = 0 := rfl
theorem tsz_next {l : List (List UInt8)} {i : Nat} (h : i < l.length) : tsz (l.take (i + 1)) = tsz (l.take i) + 5 + (l.getD i []).length := by
 have e : l.getD i [] = l[i] := by simp [List.getD_eq_getElem?_getD, List.getElem?_eq_getElem h]
 rw [List.take_add_one, List.getElem?_eq_getElem h, tsz, List.map_append, List.sum_append, e]
 simp only [Option.toList_some, List.map_cons, List.map_nil, List.sum_cons, List.sum_nil, tsz]; omega
theorem txts_put (d : Nat) (l : List (List UInt8)) : ((txtsW l).flatMap (putW d)).length = tsz l := by
 induction l with
 | nil => rfl
 | cons a l ih =>
  have : (putW d (.mk 2 0 a [])).length = 5 + a.length := by
   cases d with
   | zero => rw [putW_z, putS_2, List.length_cons, List.length_append, nb_len]; omega
   | succ d => rw [putW_s, putS_2, List.length_cons, List.length_append, nb_len]; omega
  simp only [txtsW, List.map_cons, List.flatMap_cons, List.length_append, tsz, List.sum_cons] at ih ⊢
  rw [ih, this]
theorem txts_may (d : Nat) (l : List (List UInt8)) : (txtsW l).all (mayW d) = l.all fun s => decide (s.length ≤ 1048576) := by
 have h1 : ∀ a : List UInt8, mayW d (.mk 2 0 a []) = decide (a.length ≤ 1048576) := fun a => by
  cases d with
  | zero => rw [mayW_z, mayS_2]; simp
  | succ d => rw [mayW_s, mayS_2]; simp
 induction l with
 | nil => rfl
 | cons a l ih =>
  show (mayW d (.mk 2 0 a []) && (txtsW l).all (mayW d)) = (decide (a.length ≤ 1048576) && l.all fun s => decide (s.length ≤ 1048576))
  rw [h1, ih]
/-- The texts of wires. -/
def wTs (l : List Wr) : List (List UInt8) := l.map Wr.s
@[push_cast] theorem wTs_len (l : List Wr) : (wTs l).length = l.length := by simp [wTs]
theorem wTs_nil : wTs [] = [] := rfl
theorem wTs_next {l : List Wr} {i : Nat} (h : i < l.length) : wTs (l.take (i + 1)) = wTs (l.take i) ++ [(l.getD i default).s] := by
 have e : l.getD i default = l[i] := by simp [List.getD_eq_getElem?_getD, List.getElem?_eq_getElem h]
 rw [List.take_add_one, List.getElem?_eq_getElem h, wTs, List.map_append, e]; rfl
theorem wTs_txts (l : List (List UInt8)) : wTs (txtsW l) = l := by simp [wTs, txtsW, Function.comp_def, Wr.s_mk]
theorem listW_may (d : Nat) (l : List Wr) : mayW (d + 1) (.mk 3 0 [] l) = (decide (l.length ≤ 65536) && l.all (mayW d)) := by rw [mayW_s, mayS_3]; simp
theorem numW_may (d : Nat) (n : Int) : mayW d (.mk 1 n [] []) = true := by cases d <;> rfl
theorem txtW_may (d : Nat) (s : List UInt8) : mayW d (.mk 2 0 s []) = decide (s.length ≤ 1048576) := by
 cases d with
 | zero => rw [mayW_z, mayS_2]; simp
 | succ d => rw [mayW_s, mayS_2]; simp
theorem rangeW_s (d : Nat) (w : Wr) : rangeW (d + 1) w = rangeS (rangeW d) w := rfl
theorem rangeW_mk (d : Nat) (k n : Int) (s : List UInt8) (l : List Wr) : rangeW (d + 1) (.mk k n s l) = ((-9223372036854775808 ≤ n ∧ n ≤ 9223372036854775807) ∧ ∀ x ∈ l, rangeW d x) := rfl
theorem rangeW_num (d : Nat) (w : Wr) (h : rangeW d w) : -9223372036854775808 ≤ w.n ∧ w.n ≤ 9223372036854775807 := by
 cases w; cases d <;> exact h.1
theorem numW_put (d : Nat) (n : Int) : (putW d (.mk 1 n [] [])).length = 9 := by
 cases d with
 | zero => rw [putW_z, putS_1, List.length_cons, nb_len]
 | succ d => rw [putW_s, putS_1, List.length_cons, nb_len]
theorem txtW_put (d : Nat) (s : List UInt8) : (putW d (.mk 2 0 s [])).length = 5 + s.length := by
 cases d with
 | zero => rw [putW_z, putS_2, List.length_cons, List.length_append, nb_len]; omega
 | succ d => rw [putW_s, putS_2, List.length_cons, List.length_append, nb_len]; omega
theorem listW_put (d : Nat) (l : List Wr) : (putW (d + 1) (.mk 3 0 [] l)).length = 5 + (l.flatMap (putW d)).length := by rw [putW_s, putS_3, List.length_cons, List.length_append, nb_len]; omega

end Go.Proofs.Tryd
