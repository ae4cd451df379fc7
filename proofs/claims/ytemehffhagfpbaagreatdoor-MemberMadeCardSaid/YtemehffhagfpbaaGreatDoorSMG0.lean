/- Contracts of this program's functions. -/
import Derived.Test.YtemehffhagfpbaaGreatDoorSMF0
set_option maxHeartbeats 4000000
set_option maxRecDepth 100000
set_option linter.unusedVariables false
set_option linter.unusedSimpArgs false
namespace Go.Proofs.Tryz
open Go Go.Ot

/-! ### chains by numbers -/
def nxR (l : List Rc) (b : UInt8) : Rc := ⟨(l.length : Int) + 1, hsh (l.getD (l.length - 1) default), if (inF l l.length).contains (1 + (b.toNat : Int) % 7) then 2 else 1, 1 + (b.toNat : Int) % 7, [], if 127 < b.toNat then [48, 49, 50, 51, 52, 53, 54, 55, 56, 57, 97, 98, 99, 100, 101, 102] else []⟩
def chL (ns : List UInt8) : Nat → List Rc
 | 0 => [⟨1, [], 1, 0, [], []⟩]
 | i + 1 => chL ns i ++ [nxR (chL ns i) (ns.getD i 0)]
theorem chL_0 (ns : List UInt8) : chL ns 0 = [⟨1, [], 1, 0, [], []⟩] := rfl
theorem chL_s (ns : List UInt8) (i : Nat) : chL ns (i + 1) = chL ns i ++ [nxR (chL ns i) (ns.getD i 0)] := rfl
@[push_cast] theorem chL_len (ns : List UInt8) : ∀ i, (chL ns i).length = i + 1
 | 0 => rfl
 | i + 1 => by rw [chL_s, List.length_append, chL_len ns i]; rfl
theorem chL_w (ns : List UInt8) : ∀ i, ∀ r ∈ chL ns i, r.wraps = []
 | 0, r, h => by rw [chL_0, List.mem_singleton] at h; rw [h]
 | i + 1, r, h => by
  rw [chL_s] at h
  rcases List.mem_append.1 h with h | h
  ·exact chL_w ns i r h
  ·rw [List.mem_singleton.1 h]; rfl
theorem nowrap {l : List Rc} (h : ∀ r ∈ l, r.wraps = []) (j : Nat) : (l.getD j default).wraps.length ≤ 9223372036854775807 := by
 by_cases hj : j < l.length
 ·have e : l.getD j default = l[j] := by simp [List.getD_eq_getElem?_getD, List.getElem?_eq_getElem hj]
  rw [e, h _ (List.getElem_mem hj)]; decide
 ·rw [List.getD_eq_getElem?_getD, List.getElem?_eq_none (by omega)]; decide
theorem app_at {l : List Rc} {r : Rc} {j : Nat} (h : j < l.length) : (l ++ [r]).getD j default = l.getD j default := by rw [List.getD_eq_getElem?_getD, List.getD_eq_getElem?_getD, List.getElem?_append_left h]
theorem app_end {l : List Rc} {r : Rc} : (l ++ [r]).getD l.length default = r := by simp [List.getD_eq_getElem?_getD]
theorem app_inF {l : List Rc} {r : Rc} : ∀ j, j ≤ l.length → inF (l ++ [r]) j = inF l j
 | 0, _ => rfl
 | j + 1, h => by rw [inF, inF, app_at (show j < l.length from h), app_inF j (by omega)]
theorem app_prev {l : List Rc} {r : Rc} : ∀ j, j ≤ l.length → prevF (l ++ [r]) j = prevF l j
 | 0, _ => rfl
 | j + 1, h => by rw [prevF, prevF, app_at (show j < l.length from h)]
theorem app_ch {l : List Rc} {r : Rc} {j : Nat} (h : j < l.length) : chC (l ++ [r]) (inF (l ++ [r]) j) j = chC l (inF l j) j := by
 rw [app_inF j (by omega), chC, chC, app_at h, app_prev j (by omega)]
theorem nx_ok {l : List Rc} (b : UInt8) (h1 : 0 < l.length) (h2 : l.length < 40) : chC (l ++ [nxR l b]) (inF (l ++ [nxR l b]) l.length) l.length = 0 := by
 have hb := b.toNat_lt
 have hd1 : 0 ≤ (b.toNat : Int) % 7 := by omega
 have hd2 : (b.toNat : Int) % 7 ≤ 6 := by omega
 rw [app_inF _ (Nat.le_refl _)]
 refine chC_0 app_end ⟨?_, ?_, .inl (hsh_len _), ?_, ⟨?_, ?_⟩, ?_, show mwB [] = true by decide +kernel⟩ ⟨rfl, ?_⟩ ?_
 ·show 1 ≤ (l.length : Int) + 1; omega
 ·show (l.length : Int) + 1 ≤ 1048576; omega
 ·show (if _ then (2 : Int) else 1) = 1 ∨ (if _ then (2 : Int) else 1) = 2
  split
  ·exact .inr rfl
  ·exact .inl rfl
 ·show 0 ≤ 1 + (b.toNat : Int) % 7; omega
 ·show 1 + (b.toNat : Int) % 7 < 8; omega
 ·show (if 127 < b.toNat then [48, 49, 50, 51, 52, 53, 54, 55, 56, 57, 97, 98, 99, 100, 101, 102] else []) = [] ∨ (if 127 < b.toNat then ([48, 49, 50, 51, 52, 53, 54, 55, 56, 57, 97, 98, 99, 100, 101, 102] : List UInt8) else []).length = 16
  split
  ·exact .inr rfl
  ·exact .inl rfl
 ·rw [app_prev _ (Nat.le_refl _)]
  obtain ⟨k, hk⟩ : ∃ k, l.length = k + 1 := ⟨l.length - 1, by omega⟩
  show hsh (l.getD (l.length - 1) default) = prevF l l.length
  rw [hk]; rfl
 ·rintro (⟨h, _⟩ | ⟨_, h⟩ | h)
  ·omega
  ·have h : 1 + (b.toNat : Int) % 7 = 0 := h
   omega
  ·apply h
   show (inF l l.length).contains (1 + (b.toNat : Int) % 7) = decide ((if (inF l l.length).contains (1 + (b.toNat : Int) % 7) then (2 : Int) else 1) = 2)
   rcases (inF l l.length).contains (1 + (b.toNat : Int) % 7) <;> rfl
theorem chL_ok (ns : List UInt8) : ∀ i, i ≤ 29 → ∀ j, j < (chL ns i).length → chC (chL ns i) (inF (chL ns i) j) j = 0
 | 0, _, j, h => by
  have : j = 0 := by rw [chL_len] at h; omega
  subst this
  exact chC_0 (r := ⟨1, [], 1, 0, [], []⟩) rfl (by decide +kernel) ⟨rfl, rfl⟩ (show ¬ ((0 = 0 ∧ ((1 : Int) ≠ 1 ∨ (0 : Int) ≠ 0)) ∨ ((1 : Int) = 2 ∧ (0 : Int) = 0) ∨ ([] : List Int).contains 0 ≠ decide ((1 : Int) = 2)) from by decide)
 | i + 1, hi, j, h => by
  have hl := chL_len ns i
  rw [chL_s] at h ⊢
  by_cases hj : j < (chL ns i).length
  ·rw [app_ch hj]; exact chL_ok ns i (by omega) j hj
  ·have e : j = (chL ns i).length := by rw [List.length_append] at h; simp only [List.length_cons, List.length_nil] at h; omega
   rw [e]
   exact nx_ok _ (by omega) (by omega)
/-- The chain that numbers make. -/
def chE (ns : List UInt8) : List Rc := chL ns (min ns.length 29)
theorem chE_len (ns : List UInt8) : 1 ≤ (chE ns).length ∧ (chE ns).length ≤ 30 := by rw [chE, chL_len]; omega
theorem chE_ck (ns : List UInt8) : ckB (chE ns) = true := ckB_yes (by have := (chE_len ns).2; omega) (fun j hj => chL_ok ns _ (by omega) j hj)
theorem chE_w (ns : List UInt8) : ∀ r ∈ chE ns, r.wraps = [] := chL_w ns _
theorem chE_rc (ns : List UInt8) {j : Nat} (h : j < (chE ns).length) : rcP ((chE ns).getD j default) := (chC_ok ((ckB_ok (chE_ck ns)).2 j h)).1
theorem nx_yes {l : List Rc} {b : UInt8} {dd : Int} (hd : (b.toNat : Int) % 7 = dd) (h : (inF l l.length).contains (1 + dd) = true) : nxR l b = ⟨(l.length : Int) + 1, hsh (l.getD (l.length - 1) default), 2, 1 + dd, [], if 127 < b.toNat then [48, 49, 50, 51, 52, 53, 54, 55, 56, 57, 97, 98, 99, 100, 101, 102] else []⟩ := by rw [nxR, hd, if_pos h]
theorem nx_not {l : List Rc} {b : UInt8} {dd : Int} (hd : (b.toNat : Int) % 7 = dd) (h : (inF l l.length).contains (1 + dd) = false) : nxR l b = ⟨(l.length : Int) + 1, hsh (l.getD (l.length - 1) default), 1, 1 + dd, [], if 127 < b.toNat then [48, 49, 50, 51, 52, 53, 54, 55, 56, 57, 97, 98, 99, 100, 101, 102] else []⟩ := by rw [nxR, hd, if_neg (by rw [h]; decide)]

end Go.Proofs.Tryz
