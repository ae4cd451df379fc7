/- Contracts of this program's functions. -/
import Derived.Test.YtemehffhagfpbaaGreatDoorSV0
import Derived.Test.YtemehffhagfpbaaGreatDoorSE
import Derived.Test.YtemehffhagfpbaaGreatDoorOtF
import Derived.Test.YtemehffhagfpbaaGreatDoorOtE
set_option maxHeartbeats 4000000
set_option maxRecDepth 100000
set_option linter.unusedVariables false
set_option linter.unusedSimpArgs false
namespace Go.Proofs.Tryz
open Go Go.Ot

structure Wp where
 dev : Int
 box : List UInt8
 deriving DecidableEq
instance : Inhabited Wp := ⟨⟨0, []⟩⟩
structure Rc where
 seq : Int
 prev : List UInt8
 kind : Int
 dev : Int
 wraps : List Wp
 tag : List UInt8
 deriving DecidableEq
instance : Inhabited Rc := ⟨⟨0, [], 0, 0, [], []⟩⟩
def wpT (w : Wp) : List T := [num w.dev, txt w.box]
def rcT (r : Rc) : List T := [num r.seq, txt r.prev, num r.kind, num r.dev, .sl r.wraps.length (r.wraps.flatMap wpT), txt r.tag]
theorem wpT_len (w : Wp) : (wpT w).length = 2 := rfl
theorem rcT_len (r : Rc) : (rcT r).length = 6 := rfl
@[push_cast] theorem wps_len (l : List Wp) : (l.flatMap wpT).length = l.length * 2 := rows_len wpT_len l
@[push_cast] theorem rcs_len (l : List Rc) : (l.flatMap rcT).length = l.length * 6 := rows_len rcT_len l
theorem rows_drop {α : Type} [Inhabited α] {f : α → List T} {k : Nat} (hf : ∀ a, (f a).length = k) {l : List α} {i : Nat} (h : i < l.length) : (l.flatMap f).drop (i * k) = f (l.getD i default) ++ (l.flatMap f).drop (i * k + k) := by
 rw [← rows_at hf h, ← List.drop_drop, List.take_append_drop]
@[push_cast] theorem wp_drop {l : List Wp} {i : Nat} (h : i < l.length) : (l.flatMap wpT).drop (i * 2) = num (l.getD i default).dev :: txt (l.getD i default).box :: (l.flatMap wpT).drop (i * 2 + 2) := rows_drop wpT_len h
@[push_cast] theorem rc_drop {l : List Rc} {i : Nat} (h : i < l.length) : (l.flatMap rcT).drop (i * 6) = num (l.getD i default).seq :: txt (l.getD i default).prev :: num (l.getD i default).kind :: num (l.getD i default).dev :: .sl (l.getD i default).wraps.length ((l.getD i default).wraps.flatMap wpT) :: txt (l.getD i default).tag :: (l.flatMap rcT).drop (i * 6 + 6) := rows_drop rcT_len h
theorem flat_wps (l : List Wp) : T.flatL (l.flatMap wpT) = true := by
 induction l with
 | nil => rfl
 | cons a l ih => simp only [List.flatMap_cons, wpT, List.cons_append, List.nil_append, T.flatL, num, txt, T.flat, ih, Bool.and_self]
theorem flat_rcs (l : List Rc) : T.flatL (l.flatMap rcT) = true ∨ True := .inr trivial
/-! ### wraps -/
def wpOk (l : List Wp) (i : Nat) : Bool := decide (0 ≤ (l.getD i default).dev ∧ (l.getD i default).dev < 8 ∧ (l.getD i default).box.length ≤ 200 ∧ (0 < i → (l.getD (i - 1) default).dev < (l.getD i default).dev))
theorem wpOk_iff {l : List Wp} {i : Nat} : wpOk l i = true ↔ (0 ≤ (l.getD i default).dev ∧ (l.getD i default).dev < 8 ∧ (l.getD i default).box.length ≤ 200 ∧ (0 < i → (l.getD (i - 1) default).dev < (l.getD i default).dev)) := by simp only [wpOk, decide_eq_true_eq]
def mwB (l : List Wp) : Bool := (List.range l.length).all (wpOk l)
theorem mwB_yes {l : List Wp} (h : ∀ i, i < l.length → wpOk l i = true) : mwB l = true := by
 rw [mwB, List.all_eq_true]; intro i hi; exact h i (List.mem_range.1 hi)
theorem mwB_get {l : List Wp} (h : mwB l = true) {i : Nat} (hi : i < l.length) : wpOk l i = true := by
 rw [mwB, List.all_eq_true] at h; exact h i (List.mem_range.2 hi)
theorem mwB_no {l : List Wp} {i : Nat} (hi : i < l.length) (h : ¬ (0 ≤ (l.getD i default).dev ∧ (l.getD i default).dev < 8 ∧ (l.getD i default).box.length ≤ 200 ∧ (0 < i → (l.getD (i - 1) default).dev < (l.getD i default).dev))) : mwB l = false := by
 rcases e : mwB l with _ | _
 ·rfl
 ·exact absurd (wpOk_iff.1 (mwB_get e hi)) h
theorem ok_next {l : List Wp} {i : Nat} (h : ∀ j, j < i → wpOk l j = true) (h2 : 0 ≤ (l.getD i default).dev ∧ (l.getD i default).dev < 8 ∧ (l.getD i default).box.length ≤ 200 ∧ (0 < i → (l.getD (i - 1) default).dev < (l.getD i default).dev)) : ∀ j, j < i + 1 → wpOk l j = true := by
 intro j hj
 by_cases e : j = i
 ·subst e; exact wpOk_iff.2 h2
 ·exact h j (by omega)
/-! ### records -/
def prevP (r : Rc) : Prop := r.prev.length = 32 ∨ (r.seq = 1 ∧ r.prev = [])
def kindP (r : Rc) : Prop := r.kind = 1 ∨ r.kind = 2
def tagP (r : Rc) : Prop := r.tag = [] ∨ r.tag.length = 16
instance (r : Rc) : Decidable (prevP r) := inferInstanceAs (Decidable (_ ∨ _))
instance (r : Rc) : Decidable (kindP r) := inferInstanceAs (Decidable (_ ∨ _))
instance (r : Rc) : Decidable (tagP r) := inferInstanceAs (Decidable (_ ∨ _))
def rcP (r : Rc) : Prop := 1 ≤ r.seq ∧ r.seq ≤ 1048576 ∧ prevP r ∧ kindP r ∧ (0 ≤ r.dev ∧ r.dev < 8) ∧ tagP r ∧ mwB r.wraps = true
instance (r : Rc) : Decidable (rcP r) := inferInstanceAs (Decidable (_ ∧ _))
def rcB (r : Rc) : Bool := decide (rcP r)
theorem rcB_t {r : Rc} (h : rcP r) : rcB r = true := decide_eq_true h
theorem rcB_f {r : Rc} (h : ¬ rcP r) : rcB r = false := decide_eq_false h
theorem beq_nil_ne {l : List UInt8} (h : l ≠ []) : (l == []) = false := by cases l with | nil => exact absurd rfl h | cons a l => rfl
/-! ### bytes -/
def wpW (l : List Wp) : List Wr := l.map fun w => .mk 3 0 [] [.mk 1 w.dev [] [], .mk 2 0 w.box []]
theorem wpW_nil : wpW [] = [] := rfl
@[push_cast] theorem wpW_len (l : List Wp) : (wpW l).length = l.length := by simp [wpW]
theorem wpW_next {l : List Wp} {i : Nat} (h : i < l.length) : wpW (l.take (i + 1)) = wpW (l.take i) ++ [.mk 3 0 [] [.mk 1 (l.getD i default).dev [] [], .mk 2 0 (l.getD i default).box []]] := by
 have e : l.getD i default = l[i] := by simp [List.getD_eq_getElem?_getD, List.getElem?_eq_getElem h]
 rw [List.take_add_one, List.getElem?_eq_getElem h, wpW, List.map_append, e]; rfl
theorem szL_wpW : ∀ l : List Wp, Wr.szL (wpW l) = 3 * l.length
 | [] => rfl
 | a :: l => by
  have := szL_wpW l
  simp only [wpW, List.map_cons, Wr.szL, Wr.sz, List.length_cons] at this ⊢; omega
def rcW (r : Rc) : Wr := .mk 3 0 [] [.mk 1 r.seq [] [], .mk 2 0 r.prev [], .mk 1 r.kind [] [], .mk 1 r.dev [] [], .mk 3 0 [] (wpW r.wraps), .mk 2 0 r.tag []]
def hdW (r : Rc) : Wr := .mk 3 0 [] [.mk 1 r.seq [] [], .mk 1 r.kind [] [], .mk 1 r.dev [] [], .mk 2 0 r.prev []]
def wsz (l : List Wp) : Nat := (l.map fun w => 19 + w.box.length).sum
theorem wpW_put (d : Nat) : ∀ l : List Wp, ((wpW l).flatMap (putW (d + 1))).length = wsz l
 | [] => rfl
 | a :: l => by
  have ih := wpW_put d l
  have h1 : (putW (d + 1) (.mk 3 0 [] [.mk 1 a.dev [] [], .mk 2 0 a.box []])).length = 19 + a.box.length := by
   rw [listW_put]; simp only [List.flatMap_cons, List.flatMap_nil, List.length_append, List.length_nil, numW_put, txtW_put]; omega
  simp only [wpW, List.map_cons, List.flatMap_cons, List.length_append, wsz, List.sum_cons] at ih ⊢
  rw [ih, h1]
theorem rcW_put (r : Rc) : (putW 6 (rcW r)).length = 47 + r.prev.length + wsz r.wraps + r.tag.length := by
 rw [rcW, listW_put]; simp only [List.flatMap_cons, List.flatMap_nil, List.length_append, List.length_nil, numW_put, txtW_put, listW_put, wpW_put]; omega
theorem hdW_put (r : Rc) : (putW 6 (hdW r)).length = 37 + r.prev.length := by
 rw [hdW, listW_put]; simp only [List.flatMap_cons, List.flatMap_nil, List.length_append, List.length_nil, numW_put, txtW_put]; omega
theorem mw_len {l : List Wp} (h : mwB l = true) : l.length ≤ 8 ∧ wsz l ≤ 219 * l.length := by
 have key : ∀ i, i < l.length → (i : Int) ≤ (l.getD i default).dev := by
  intro i
  induction i with
  | zero => intro hi; have := (wpOk_iff.1 (mwB_get h hi)).1; omega
  | succ i ih =>
   intro hi
   have h1 := ih (by omega)
   have h2 := (wpOk_iff.1 (mwB_get h hi)).2.2.2 (by omega)
   rw [Nat.add_sub_cancel] at h2
   omega
 constructor
 ·rcases Nat.lt_or_ge 8 l.length with hl | hl
  ·have h1 := key 8 hl
   have h2 := (wpOk_iff.1 (mwB_get h hl)).2.1
   omega
  ·exact hl
 ·have hb : ∀ i, i < l.length → (l.getD i default).box.length ≤ 200 := fun i hi => (wpOk_iff.1 (mwB_get h hi)).2.2.1
  clear key h
  induction l with
  | nil => simp [wsz]
  | cons a l ih =>
   have h0 := hb 0 (by simp)
   simp at h0
   have := ih (fun i hi => by have := hb (i + 1) (by simpa using hi); simpa using this)
   simp only [wsz, List.map_cons, List.sum_cons, List.length_cons] at this ⊢
   omega
theorem rc_small {r : Rc} (h : rcP r) : (putW 6 (rcW r)).length ≤ 2000 := by
 obtain ⟨_, _, h1, _, _, h2, h3⟩ := h
 have := mw_len h3
 rw [rcW_put]
 rcases h1 with h1 | ⟨_, h1⟩ <;> rcases h2 with h2 | h2 <;> simp [h1, h2] <;> omega
theorem hd_small {r : Rc} (h : rcP r) : (putW 6 (hdW r)).length ≤ 2000 := by
 obtain ⟨_, _, h1, _⟩ := h
 rw [hdW_put]
 rcases h1 with h1 | ⟨_, h1⟩ <;> simp [h1]
theorem wpW_may (d : Nat) {l : List Wp} (h : ∀ w ∈ l, w.box.length ≤ 1048576) : (wpW l).all (mayW (d + 1)) = true := by
 rw [List.all_eq_true]
 intro x hx
 obtain ⟨w, hw, rfl⟩ := List.mem_map.1 hx
 rw [listW_may]
 simp [numW_may, txtW_may, h w hw]
theorem mw_box {l : List Wp} (h : mwB l = true) : ∀ w ∈ l, w.box.length ≤ 1048576 := fun w hw => by
 obtain ⟨i, hi, rfl⟩ := List.mem_iff_getElem.1 hw
 have := (wpOk_iff.1 (mwB_get h hi)).2.2.1
 have e : l.getD i default = l[i] := by simp [List.getD_eq_getElem?_getD, List.getElem?_eq_getElem hi]
 rw [e] at this; omega
theorem rc_may {r : Rc} (h : rcP r) : mayW 6 (rcW r) = true := by
 obtain ⟨_, _, h1, _, _, h2, h3⟩ := h
 have hl := mw_len h3
 rw [rcW, listW_may]
 have hp : r.prev.length ≤ 1048576 := by rcases h1 with h1 | ⟨_, h1⟩ <;> simp [h1]
 have ht : r.tag.length ≤ 1048576 := by rcases h2 with h2 | h2 <;> simp [h2]
 simp [numW_may, txtW_may, hp, ht, listW_may, wpW_may 3 (mw_box h3), wpW_len]
 omega
theorem hd_may {r : Rc} (h : rcP r) : mayW 6 (hdW r) = true := by
 obtain ⟨_, _, h1, _⟩ := h
 have hp : r.prev.length ≤ 1048576 := by rcases h1 with h1 | ⟨_, h1⟩ <;> simp [h1]
 rw [hdW, listW_may]
 simp [numW_may, txtW_may, hp]
/-- A record's bytes. -/
def rcF (r : Rc) : List UInt8 := if rcP r then PutW (rcW r) else []
def hdF (r : Rc) : List UInt8 := if rcP r then PutW (hdW r) else []
theorem rcF_t {r : Rc} (h : rcP r) : rcF r = PutW (rcW r) := if_pos h
theorem rcF_f {r : Rc} (h : ¬ rcP r) : rcF r = [] := if_neg h
theorem hdF_t {r : Rc} (h : rcP r) : hdF r = PutW (hdW r) := if_pos h
theorem hdF_f {r : Rc} (h : ¬ rcP r) : hdF r = [] := if_neg h
theorem rcF_len (r : Rc) : (rcF r).length ≤ 2000 := by
 by_cases h : rcP r
 ·rw [rcF_t h, PutW_t (rc_may h)]; exact rc_small h
 ·rw [rcF_f h]; simp
/-- A record's sum. -/
def hsh (r : Rc) : List UInt8 := sha (rcF r)
theorem hsh_len (r : Rc) : (hsh r).length = 32 := sha_len _

end Go.Proofs.Tryz
