/- Contracts of this program's functions. -/
import Derived.Test.YtkbikblijipceaaGreatDoorSV0
import Derived.Test.YtkbikblijipceaaGreatDoorSE
import Derived.Test.YtkbikblijipceaaGreatDoorOtF
import Derived.Test.YtkbikblijipceaaGreatDoorOtE
set_option maxHeartbeats 4000000
set_option maxRecDepth 100000
set_option linter.unusedVariables false
set_option linter.unusedSimpArgs false
namespace Go.Proofs.Tryz
open Go Go.Ot
structure Wp where
 dev : Int
 box : List UInt8
 deriving DecidableEq
instance : Inhabited Wp := ⟨⟨0, []⟩⟩
structure Rc where
 seq : Int
 prev : List UInt8
 kind : Int
 dev : Int
 wraps : List Wp
 tag : List UInt8
 deriving DecidableEq
instance : Inhabited Rc := ⟨⟨0, [], 0, 0, [], []⟩⟩
def wpT (w : Wp) : List T := [num w.dev, txt w.box]
def rcT (r : Rc) : List T := [num r.seq, txt r.prev, num r.kind, num r.dev, .sl r.wraps.length (r.wraps.flatMap wpT), txt r.tag]
theorem yC8 (w : Wp) : (wpT w).length = 2 := rfl
theorem yAI (r : Rc) : (rcT r).length = 6 := rfl
@[push_cast] theorem uA (l : List Wp) : (l.flatMap wpT).length = l.length * 2 := mG yC8 l
@[push_cast] theorem uB (l : List Rc) : (l.flatMap rcT).length = l.length * 6 := mG yAI l
theorem bP {α : Type} [Inhabited α] {f : α → List T} {k : Nat} (hf : ∀ a, (f a).length = k) {l : List α} {i : Nat} (h : i < l.length) : (l.flatMap f).drop (i * k) = f (l.getD i default) ++ (l.flatMap f).drop (i * k + k) := by
 rw [← jP hf h, ← List.drop_drop, List.take_append_drop]
@[push_cast] theorem wp_drop {l : List Wp} {i : Nat} (h : i < l.length) : (l.flatMap wpT).drop (i * 2) = num (l.getD i default).dev :: txt (l.getD i default).box :: (l.flatMap wpT).drop (i * 2 + 2) := bP yC8 h
@[push_cast] theorem yAH {l : List Rc} {i : Nat} (h : i < l.length) : (l.flatMap rcT).drop (i * 6) = num (l.getD i default).seq :: txt (l.getD i default).prev :: num (l.getD i default).kind :: num (l.getD i default).dev :: .sl (l.getD i default).wraps.length ((l.getD i default).wraps.flatMap wpT) :: txt (l.getD i default).tag :: (l.flatMap rcT).drop (i * 6 + 6) := bP yAI h
theorem yGt (l : List Wp) : T.flatL (l.flatMap wpT) = true := by
 induction l with
 | nil => rfl
 | cons a l ih => simp only [List.flatMap_cons, wpT, List.cons_append, List.nil_append, T.flatL, num, txt, T.flat, ih, Bool.and_self]
def yHe (l : List Wp) (i : Nat) : Bool := decide (0 ≤ (l.getD i default).dev ∧ (l.getD i default).dev < 8 ∧ (l.getD i default).box.length ≤ 200 ∧ (0 < i → (l.getD (i - 1) default).dev < (l.getD i default).dev))
theorem wpOk_iff {l : List Wp} {i : Nat} : yHe l i = true ↔ (0 ≤ (l.getD i default).dev ∧ (l.getD i default).dev < 8 ∧ (l.getD i default).box.length ≤ 200 ∧ (0 < i → (l.getD (i - 1) default).dev < (l.getD i default).dev)) := by simp only [yHe, decide_eq_true_eq]
def mwB (l : List Wp) : Bool := (List.range l.length).all (yHe l)
theorem yDT {l : List Wp} (h : ∀ i, i < l.length → yHe l i = true) : mwB l = true := by
 rw [mwB, List.all_eq_true]; intro i hi; exact h i (List.mem_range.1 hi)
theorem qO {l : List Wp} (h : mwB l = true) {i : Nat} (hi : i < l.length) : yHe l i = true := by
 rw [mwB, List.all_eq_true] at h; exact h i (List.mem_range.2 hi)
theorem nN {l : List Wp} {i : Nat} (hi : i < l.length) (h : ¬ (0 ≤ (l.getD i default).dev ∧ (l.getD i default).dev < 8 ∧ (l.getD i default).box.length ≤ 200 ∧ (0 < i → (l.getD (i - 1) default).dev < (l.getD i default).dev))) : mwB l = false := by
 rcases e : mwB l with _ | _
 ·rfl
 ·exact absurd (wpOk_iff.1 (qO e hi)) h
theorem jT {l : List Wp} {i : Nat} (h : ∀ j, j < i → yHe l j = true) (h2 : 0 ≤ (l.getD i default).dev ∧ (l.getD i default).dev < 8 ∧ (l.getD i default).box.length ≤ 200 ∧ (0 < i → (l.getD (i - 1) default).dev < (l.getD i default).dev)) : ∀ j, j < i + 1 → yHe l j = true := by
 intro j hj
 by_cases e : j = i
 ·subst e; exact wpOk_iff.2 h2
 ·exact h j (by omega)
def aB (r : Rc) : Prop := r.prev.length = 32 ∨ (r.seq = 1 ∧ r.prev = [])
def yAP (r : Rc) : Prop := r.kind = 1 ∨ r.kind = 2
def yHX (r : Rc) : Prop := r.tag = [] ∨ r.tag.length = 16
instance (r : Rc) : Decidable (aB r) := inferInstanceAs (Decidable (_ ∨ _))
instance (r : Rc) : Decidable (yAP r) := inferInstanceAs (Decidable (_ ∨ _))
instance (r : Rc) : Decidable (yHX r) := inferInstanceAs (Decidable (_ ∨ _))
def rcP (r : Rc) : Prop := 1 ≤ r.seq ∧ r.seq ≤ 1048576 ∧ aB r ∧ yAP r ∧ (0 ≤ r.dev ∧ r.dev < 8) ∧ yHX r ∧ mwB r.wraps = true
instance (r : Rc) : Decidable (rcP r) := inferInstanceAs (Decidable (_ ∧ _))
def rcB (r : Rc) : Bool := decide (rcP r)
theorem yFV {r : Rc} (h : rcP r) : rcB r = true := decide_eq_true h
theorem gZ {r : Rc} (h : ¬ rcP r) : rcB r = false := decide_eq_false h
theorem lQ {l : List UInt8} (h : l ≠ []) : (l == []) = false := by cases l with | nil => exact absurd rfl h | cons a l => rfl
def wpW (l : List Wp) : List Wr := l.map fun w => .mk 3 0 [] [.mk 1 w.dev [] [], .mk 2 0 w.box []]
theorem wpW_nil : wpW [] = [] := rfl
@[push_cast] theorem jC (l : List Wp) : (wpW l).length = l.length := by simp [wpW]
theorem yA5 {l : List Wp} {i : Nat} (h : i < l.length) : wpW (l.take (i + 1)) = wpW (l.take i) ++ [.mk 3 0 [] [.mk 1 (l.getD i default).dev [] [], .mk 2 0 (l.getD i default).box []]] := by
 have e : l.getD i default = l[i] := by simp [List.getD_eq_getElem?_getD, List.getElem?_eq_getElem h]
 rw [List.take_add_one, List.getElem?_eq_getElem h, wpW, List.map_append, e]; rfl
theorem szL_wpW : ∀ l : List Wp, Wr.szL (wpW l) = 3 * l.length
 | [] => rfl
 | a :: l => by
  have := szL_wpW l
  simp only [wpW, List.map_cons, Wr.szL, Wr.sz, List.length_cons] at this ⊢; omega
def rcW (r : Rc) : Wr := .mk 3 0 [] [.mk 1 r.seq [] [], .mk 2 0 r.prev [], .mk 1 r.kind [] [], .mk 1 r.dev [] [], .mk 3 0 [] (wpW r.wraps), .mk 2 0 r.tag []]
def hdW (r : Rc) : Wr := .mk 3 0 [] [.mk 1 r.seq [] [], .mk 1 r.kind [] [], .mk 1 r.dev [] [], .mk 2 0 r.prev []]
def wsz (l : List Wp) : Nat := (l.map fun w => 19 + w.box.length).sum
theorem yC7 (d : Nat) : ∀ l : List Wp, ((wpW l).flatMap (putW (d + 1))).length = wsz l
 | [] => rfl
 | a :: l => by
  have ih := yC7 d l
  have h1 : (putW (d + 1) (.mk 3 0 [] [.mk 1 a.dev [] [], .mk 2 0 a.box []])).length = 19 + a.box.length := by
   rw [tU]; simp only [List.flatMap_cons, List.flatMap_nil, List.length_append, List.length_nil, mQ, kN]; omega
  simp only [wpW, List.map_cons, List.flatMap_cons, List.length_append, wsz, List.sum_cons] at ih ⊢
  rw [ih, h1]
theorem yIt (r : Rc) : (putW 6 (rcW r)).length = 47 + r.prev.length + wsz r.wraps + r.tag.length := by
 rw [rcW, tU]; simp only [List.flatMap_cons, List.flatMap_nil, List.length_append, List.length_nil, mQ, kN, tU, yC7]; omega
theorem yIZ (r : Rc) : (putW 6 (hdW r)).length = 37 + r.prev.length := by
 rw [hdW, tU]; simp only [List.flatMap_cons, List.flatMap_nil, List.length_append, List.length_nil, mQ, kN]; omega
theorem sQ {l : List Wp} (h : mwB l = true) : l.length ≤ 8 ∧ wsz l ≤ 219 * l.length := by
 have key : ∀ i, i < l.length → (i : Int) ≤ (l.getD i default).dev := by
  intro i
  induction i with
  | zero => intro hi; have := (wpOk_iff.1 (qO h hi)).1; omega
  | succ i ih =>
   intro hi
   have h1 := ih (by omega)
   have h2 := (wpOk_iff.1 (qO h hi)).2.2.2 (by omega)
   rw [Nat.add_sub_cancel] at h2
   omega
 constructor
 ·rcases Nat.lt_or_ge 8 l.length with hl | hl
  ·have h1 := key 8 hl
   have h2 := (wpOk_iff.1 (qO h hl)).2.1
   omega
  ·exact hl
 ·have hb : ∀ i, i < l.length → (l.getD i default).box.length ≤ 200 := fun i hi => (wpOk_iff.1 (qO h hi)).2.2.1
  clear key h
  induction l with
  | nil => simp [wsz]
  | cons a l ih =>
   have h0 := hb 0 (by simp)
   simp at h0
   have := ih (fun i hi => by have := hb (i + 1) (by simpa using hi); simpa using this)
   simp only [wsz, List.map_cons, List.sum_cons, List.length_cons] at this ⊢
   omega
theorem dI {r : Rc} (h : rcP r) : (putW 6 (rcW r)).length ≤ 2000 := by
 obtain ⟨_, _, h1, _, _, h2, h3⟩ := h
 have := sQ h3
 rw [yIt]
 rcases h1 with h1 | ⟨_, h1⟩ <;> rcases h2 with h2 | h2 <;> simp [h1, h2] <;> omega
theorem yBP {r : Rc} (h : rcP r) : (putW 6 (hdW r)).length ≤ 2000 := by
 obtain ⟨_, _, h1, _⟩ := h
 rw [yIZ]
 rcases h1 with h1 | ⟨_, h1⟩ <;> simp [h1]
theorem yHI (d : Nat) {l : List Wp} (h : ∀ w ∈ l, w.box.length ≤ 1048576) : (wpW l).all (mayW (d + 1)) = true := by
 rw [List.all_eq_true]
 intro x hx
 obtain ⟨w, hw, rfl⟩ := List.mem_map.1 hx
 rw [tV]
 simp [mR, kO, h w hw]
theorem mw_box {l : List Wp} (h : mwB l = true) : ∀ w ∈ l, w.box.length ≤ 1048576 := fun w hw => by
 obtain ⟨i, hi, rfl⟩ := List.mem_iff_getElem.1 hw
 have := (wpOk_iff.1 (qO h hi)).2.2.1
 have e : l.getD i default = l[i] := by simp [List.getD_eq_getElem?_getD, List.getElem?_eq_getElem hi]
 rw [e] at this; omega
theorem yDB {r : Rc} (h : rcP r) : mayW 6 (rcW r) = true := by
 obtain ⟨_, _, h1, _, _, h2, h3⟩ := h
 have hl := sQ h3
 rw [rcW, tV]
 have hp : r.prev.length ≤ 1048576 := by rcases h1 with h1 | ⟨_, h1⟩ <;> simp [h1]
 have ht : r.tag.length ≤ 1048576 := by rcases h2 with h2 | h2 <;> simp [h2]
 simp [mR, kO, hp, ht, tV, yHI 3 (mw_box h3), jC]
 omega
theorem hd_may {r : Rc} (h : rcP r) : mayW 6 (hdW r) = true := by
 obtain ⟨_, _, h1, _⟩ := h
 have hp : r.prev.length ≤ 1048576 := by rcases h1 with h1 | ⟨_, h1⟩ <;> simp [h1]
 rw [hdW, tV]
 simp [mR, kO, hp]
def rcF (r : Rc) : List UInt8 := if rcP r then qB (rcW r) else []
def hdF (r : Rc) : List UInt8 := if rcP r then qB (hdW r) else []
theorem yDC {r : Rc} (h : rcP r) : rcF r = qB (rcW r) := if_pos h
theorem yIw {r : Rc} (h : ¬ rcP r) : rcF r = [] := if_neg h
theorem hdF_t {r : Rc} (h : rcP r) : hdF r = qB (hdW r) := if_pos h
theorem hdF_f {r : Rc} (h : ¬ rcP r) : hdF r = [] := if_neg h
theorem nQ (r : Rc) : (rcF r).length ≤ 2000 := by
 by_cases h : rcP r
 ·rw [yDC h, pS (yDB h)]; exact dI h
 ·rw [yIw h]; simp
def hsh (r : Rc) : List UInt8 := sha (rcF r)
theorem yIW (r : Rc) : (hsh r).length = 32 := nP _
end Go.Proofs.Tryz

namespace Go.Proofs.Tryz
open Go Go.Ot
attribute [local simp] num bol txt w8 w16 w32 w64 lst cls xZ xR List.take_of_length_le
attribute [local irreducible] wpK wpS uE wH wV wN wZ xD Le rdS lpW rdW got tB mayW uW putW nb u64 qB mwB sha rcF hdF hsh
theorem eJ (Γ : Gl) (n : Int) (h0 : 0 ≤ n) (h1 : n < 8) : Go.Ot.Good Γ prog 167 [.t (num n)] [] (.t (bol true)) [] [] := by
 refine yR F.mix func167 (by rfl) ntmps167 ?_
 refine yD (yA rfl ?_)
 refine yF ?_
 refine yE (yB (yC (yD (yA rfl ?_))))
 iterate 3 refine yF ?_
 iterate 2 refine xB ?_
 iterate 2 refine yF ?_
 refine yE (yB (yC (yO ?_)))
 refine ⟨.inr rfl, yP [] (by rw [results167]) ?_ ?_ ?_⟩ <;> simp
theorem yHy (Γ : Gl) (n : Int) (h : n < 0 ∨ 8 ≤ n) : Go.Ot.Good Γ prog 167 [.t (num n)] [] (.t (bol false)) [] [] := by
 refine yR F.mix func167 (by rfl) ntmps167 ?_
 refine yD (yA rfl ?_)
 refine yF ?_
 refine yE (yB (yC (yD (yA rfl ?_))))
 rcases h with h | h
 ·skip
  iterate 3 refine yF ?_
  iterate 2 refine wJ ?_
  iterate 2 refine yF ?_
  refine yE (yB (yC (yO ?_)))
  refine ⟨.inr rfl, yP [] (by rw [results167]) ?_ ?_ ?_⟩ <;> simp
 ·skip
  iterate 3 refine yF ?_
  iterate 2 refine xB ?_
  iterate 2 refine yF ?_
  refine yE (yB (yC (yO ?_)))
  refine ⟨.inr rfl, yP [] (by rw [results167]) ?_ ?_ ?_⟩ <;> simp
theorem yII (Γ : Gl) (l : List Wp) (hl : l.length ≤ 9223372036854775807) : Go.Ot.Good Γ prog 168 [.t (.sl l.length (l.flatMap wpT))] [] (.t (bol (mwB l))) [] [] := by
 refine yR F.mix func168 (by rfl) ntmps168 ?_
 refine yD (yA rfl ?_)
 refine yF ?_
 refine yE (yB (yC (yD (yD (yA rfl ?_)))))
 iterate 3 refine yF ?_
 refine yE (yB (yC (yH ?_)))
 refine xN (fun sl L (i : Nat) => ⟨setAll (setBad sl [2, 3, 4, 8, 9, 10, 11, 12, 13, 14, 15, 16, 17, 18, 19, 20, 21, 22, 23, 24, 25, 26, 27, 28, 29, 30, 31, 32, 33, 34, 35, 36, 37]) [(7, .t (num i))], Go.Ot.look (L)⟩) (fun i => i ≤ l.length ∧ ∀ j, j < i → yHe l j = true) (fun i => l.length - i) (0) (wF ?_) ?_ ?_
 ·refine yT ?_ ?_ ?_ <;> simp [rcT, wpT]
 ·exact ⟨Nat.zero_le _, fun j hj => by omega⟩
 ·rintro i ⟨hi, hI⟩
  refine vE ?_
  refine yD (yA rfl ?_)
  refine yF ?_
  refine yE (yB (yC (yD ?_)))
  refine vL (fun hc0 => ?_) (fun hc0 => ?_)
  ·(try simp only [zB] at hc0)
   refine yL (yC (yD (yH (yD (yA rfl ?_)))))
   iterate 3 refine yF ?_
   obtain ⟨e, he⟩ : ∃ e, l.getD i default = e := ⟨_, rfl⟩
   simp only [he]
   iterate 3 refine yF ?_
   refine yE (yB (yC (yD (yA rfl ?_))))
   have h5 : (e.dev < 0 ∨ 8 ≤ e.dev) ∨ (0 ≤ e.dev ∧ e.dev < 8 ∧ 200 < e.box.length) ∨ (0 ≤ e.dev ∧ e.dev < 8 ∧ e.box.length ≤ 200 ∧ i = 0) ∨ (0 ≤ e.dev ∧ e.dev < 8 ∧ e.box.length ≤ 200 ∧ (∃ k, i = k + 1) ∧ e.dev ≤ (l.getD (i - 1) default).dev) ∨ (0 ≤ e.dev ∧ e.dev < 8 ∧ e.box.length ≤ 200 ∧ (∃ k, i = k + 1) ∧ (l.getD (i - 1) default).dev < e.dev) := by
    have : i = 0 ∨ ∃ k, i = k + 1 := by cases i with | zero => exact .inl rfl | succ k => exact .inr ⟨k, rfl⟩
    rcases this with rfl | ⟨k, hk⟩
    ·omega
    ·have hk' : ∃ k, i = k + 1 := ⟨k, hk⟩
     simp only [hk', true_and]
     omega
   rcases h5 with h | ⟨h0, h1, h⟩ | ⟨h0, h1, h2, rfl⟩ | ⟨h0, h1, h2, ⟨k, rfl⟩, h3⟩ | ⟨h0, h1, h2, ⟨k, rfl⟩, h3⟩
   ·try rw [Nat.add_sub_cancel] at h3
    first | (have hn := jT hI (by rw [he]; first | exact ⟨h0, h1, h2, fun hh => by omega⟩ | exact ⟨h0, h1, h2, fun _ => by rw [Nat.add_sub_cancel]; exact h3⟩)) | (have hm : mwB l = false := nN (i := i) (by omega) (by rw [he]; first | (rintro ⟨a, b, c, d⟩; omega) | (rintro ⟨a, b, c, d⟩; have := d (by omega); rw [Nat.add_sub_cancel] at this; omega))) | (have hm : mwB l = false := nN (i := k + 1) (by omega) (by rw [he]; first | (rintro ⟨a, b, c, d⟩; omega) | (rintro ⟨a, b, c, d⟩; have := d (by omega); rw [Nat.add_sub_cancel] at this; omega)))
    iterate 2 refine yY ?_
    refine yZ [] false (yHy Γ e.dev h) ?_
    iterate 2 refine yY ?_
    iterate 4 refine yCZ ?_
    iterate 2 refine yY ?_
    iterate 13 refine yCZ ?_
    refine yY ?_
    refine yE (xO (by kernel_rfl) (yC (xF (yD (yA rfl ?_)))))
    refine yF ?_
    refine yE (yB (yC (yO (yI (yG (wI (yI (yG ?_))))))))
    refine ⟨.inr rfl, yP [] (by rw [results168]) ?_ ?_ ?_⟩ <;> simp [rcT, wpT, hm]
   ·try rw [Nat.add_sub_cancel] at h3
    first | (have hn := jT hI (by rw [he]; first | exact ⟨h0, h1, h2, fun hh => by omega⟩ | exact ⟨h0, h1, h2, fun _ => by rw [Nat.add_sub_cancel]; exact h3⟩)) | (have hm : mwB l = false := nN (i := i) (by omega) (by rw [he]; first | (rintro ⟨a, b, c, d⟩; omega) | (rintro ⟨a, b, c, d⟩; have := d (by omega); rw [Nat.add_sub_cancel] at this; omega))) | (have hm : mwB l = false := nN (i := k + 1) (by omega) (by rw [he]; first | (rintro ⟨a, b, c, d⟩; omega) | (rintro ⟨a, b, c, d⟩; have := d (by omega); rw [Nat.add_sub_cancel] at this; omega)))
    iterate 2 refine yY ?_
    refine yZ [] false (eJ Γ e.dev h0 h1) ?_
    iterate 2 refine yY ?_
    iterate 4 refine vR ?_
    iterate 2 refine yY ?_
    iterate 13 refine yCZ ?_
    refine yY ?_
    refine yE (xO (by kernel_rfl) (yC (xF (yD (yA rfl ?_)))))
    refine yF ?_
    refine yE (yB (yC (yO (yI (yG (wI (yI (yG ?_))))))))
    refine ⟨.inr rfl, yP [] (by rw [results168]) ?_ ?_ ?_⟩ <;> simp [rcT, wpT, hm]
   ·try rw [Nat.add_sub_cancel] at h3
    first | (have hn := jT hI (by rw [he]; first | exact ⟨h0, h1, h2, fun hh => by omega⟩ | exact ⟨h0, h1, h2, fun _ => by rw [Nat.add_sub_cancel]; exact h3⟩)) | (have hm : mwB l = false := nN (i := i) (by omega) (by rw [he]; first | (rintro ⟨a, b, c, d⟩; omega) | (rintro ⟨a, b, c, d⟩; have := d (by omega); rw [Nat.add_sub_cancel] at this; omega))) | (have hm : mwB l = false := nN (i := k + 1) (by omega) (by rw [he]; first | (rintro ⟨a, b, c, d⟩; omega) | (rintro ⟨a, b, c, d⟩; have := d (by omega); rw [Nat.add_sub_cancel] at this; omega)))
    iterate 2 refine yY ?_
    refine yZ [] false (eJ Γ e.dev h0 h1) ?_
    iterate 2 refine yY ?_
    iterate 4 refine vR ?_
    iterate 2 refine yY ?_
    iterate 3 refine vR ?_
    iterate 9 refine yCZ ?_
    refine vR ?_
    refine yY ?_
    refine yE (xO (by kernel_rfl) (yC (yJ (yL (yS (yC (yA rfl ?_)))))))
    iterate 2 refine yF ?_
    refine yE (yB ?_)
    refine xE (0 + 1) (wF ?_) ?_ ?_
    ·refine yT ?_ ?_ ?_ <;> simp [rcT, wpT]
    ·exact ⟨by omega, hn⟩
    ·(first | omega | (simp only []; omega))
   ·try rw [Nat.add_sub_cancel] at h3
    first | (have hn := jT hI (by rw [he]; first | exact ⟨h0, h1, h2, fun hh => by omega⟩ | exact ⟨h0, h1, h2, fun _ => by rw [Nat.add_sub_cancel]; exact h3⟩)) | (have hm : mwB l = false := nN (i := i) (by omega) (by rw [he]; first | (rintro ⟨a, b, c, d⟩; omega) | (rintro ⟨a, b, c, d⟩; have := d (by omega); rw [Nat.add_sub_cancel] at this; omega))) | (have hm : mwB l = false := nN (i := k + 1) (by omega) (by rw [he]; first | (rintro ⟨a, b, c, d⟩; omega) | (rintro ⟨a, b, c, d⟩; have := d (by omega); rw [Nat.add_sub_cancel] at this; omega)))
    iterate 2 refine yY ?_
    refine yZ [] false (eJ Γ e.dev h0 h1) ?_
    iterate 2 refine yY ?_
    iterate 4 refine vR ?_
    iterate 2 refine yY ?_
    iterate 5 refine vR ?_
    refine vR (hs := by (simp (disch := first | omega | (simp only [zL] <;> omega) | (simp only [push_cast] <;> omega) | fail) only [push_cast, reduceCtorEq, Nat.reduceAdd, Nat.reduceSub, Nat.reduceMul, Nat.reduceEqDiff, Nat.reduceLT, Nat.reduceLeDiff, Nat.reduceMod, Nat.reduceDiv, Int.reduceLE, Int.reduceLT, Int.reduceEq, Int.reduceToNat, Int.reduceAdd, Int.reduceSub, Int.reduceMul, Int.reduceNeg, show ((k : Int) + 1 - 1) = k from by omega] <;> rfl)) ?_
    iterate 7 refine vR ?_
    refine yY ?_
    refine yE (xO (by kernel_rfl) (yC (xF (yD (yA rfl ?_)))))
    refine yF ?_
    refine yE (yB (yC (yO (yI (yG (wI (yI (yG ?_))))))))
    refine ⟨.inr rfl, yP [] (by rw [results168]) ?_ ?_ ?_⟩ <;> simp [rcT, wpT, hm]
   ·try rw [Nat.add_sub_cancel] at h3
    first | (have hn := jT hI (by rw [he]; first | exact ⟨h0, h1, h2, fun hh => by omega⟩ | exact ⟨h0, h1, h2, fun _ => by rw [Nat.add_sub_cancel]; exact h3⟩)) | (have hm : mwB l = false := nN (i := i) (by omega) (by rw [he]; first | (rintro ⟨a, b, c, d⟩; omega) | (rintro ⟨a, b, c, d⟩; have := d (by omega); rw [Nat.add_sub_cancel] at this; omega))) | (have hm : mwB l = false := nN (i := k + 1) (by omega) (by rw [he]; first | (rintro ⟨a, b, c, d⟩; omega) | (rintro ⟨a, b, c, d⟩; have := d (by omega); rw [Nat.add_sub_cancel] at this; omega)))
    iterate 2 refine yY ?_
    refine yZ [] false (eJ Γ e.dev h0 h1) ?_
    iterate 2 refine yY ?_
    iterate 4 refine vR ?_
    iterate 2 refine yY ?_
    iterate 5 refine vR ?_
    refine vR (hs := by (simp (disch := first | omega | (simp only [zL] <;> omega) | (simp only [push_cast] <;> omega) | fail) only [push_cast, reduceCtorEq, Nat.reduceAdd, Nat.reduceSub, Nat.reduceMul, Nat.reduceEqDiff, Nat.reduceLT, Nat.reduceLeDiff, Nat.reduceMod, Nat.reduceDiv, Int.reduceLE, Int.reduceLT, Int.reduceEq, Int.reduceToNat, Int.reduceAdd, Int.reduceSub, Int.reduceMul, Int.reduceNeg, show ((k : Int) + 1 - 1) = k from by omega] <;> rfl)) ?_
    iterate 7 refine vR ?_
    refine yY ?_
    refine yE (xO (by kernel_rfl) (yC (yJ (yL (yS (yC (yA rfl ?_)))))))
    iterate 2 refine yF ?_
    refine yE (yB ?_)
    refine xE (k + 1 + 1) (wF ?_) ?_ ?_
    ·refine yT ?_ ?_ ?_ <;> simp [rcT, wpT]
    ·exact ⟨by omega, hn⟩
    ·(first | omega | (simp only []; omega))
  ·(try simp only [zB] at hc0)
   refine xQ (yM (yN (yK (yC (yD (yA rfl ?_))))))
   have hm : mwB l = true := yDT (fun j hj => hI j (by omega))
   refine yF ?_
   refine yE (yB (yC (yO ?_)))
   refine ⟨.inr rfl, yP [] (by rw [results168]) ?_ ?_ ?_⟩ <;> simp [rcT, wpT, hm]
theorem sO (Γ : Gl) (r : Rc) (hl : r.wraps.length ≤ 9223372036854775807) : Go.Ot.Good Γ prog 160 [.agg [.t (num r.seq), .t (txt r.prev), .t (num r.kind), .t (num r.dev), .t (.sl r.wraps.length (r.wraps.flatMap wpT)), .t (txt r.tag)]] [] (.t (bol (rcB r))) [] [] := by
 refine yR F.mix func160 (by rfl) ntmps160 ?_
 refine yD (yA rfl ?_)
 iterate 2 refine yF ?_
 refine yE (yB (yC ?_))
 refine dR (fun sl L (b : Bool) => ⟨setAll (setBad sl [0, 6, 7, 8, 9, 10, 11, 12, 13, 14, 15, 16, 17, 18, 19]) [(3, .t (bol b))], Go.Ot.look (L)⟩) (fun b => b = decide (aB r)) ?_ ?_
 ·skip
  refine yA rfl ?_
  have h4 : r.prev.length = 32 ∨ (r.prev.length ≠ 32 ∧ r.seq ≠ 1) ∨ (r.prev.length ≠ 32 ∧ r.seq = 1 ∧ r.prev = []) ∨ (r.prev.length ≠ 32 ∧ r.seq = 1 ∧ r.prev ≠ []) := by
   rcases Classical.em (r.prev = []) with h | h <;> simp only [h, not_true, not_false_eq_true, ne_eq, and_true, and_false, or_false] <;> omega
  rcases h4 with h | ⟨h, h1⟩ | ⟨h, h1, h2⟩ | ⟨h, h1, h2⟩
  ·skip
   iterate 5 refine yF ?_
   iterate 8 refine wJ ?_
   iterate 2 refine yF ?_
   refine yE (yB ?_)
   refine vU (true) (wF ?_) ?_
   ·refine yT ?_ ?_ ?_ <;> simp [rcT, wpT]
   ·exact (decide_eq_true (show aB r from by first | exact .inl h | exact .inr ⟨h1, h2⟩)).symm
  ·skip
   iterate 5 refine yF ?_
   iterate 4 refine xB ?_
   iterate 3 refine wJ ?_
   refine xB ?_
   iterate 2 refine yF ?_
   refine yE (yB ?_)
   refine vU (false) (wF ?_) ?_
   ·refine yT ?_ ?_ ?_ <;> simp [rcT, wpT]
   ·exact (decide_eq_false (show ¬ aB r from by rintro (hh | ⟨hh, hh2⟩) <;> first | omega | exact h2 hh2)).symm
  ·skip
   iterate 5 refine yF ?_
   iterate 6 refine xB ?_
   refine xB (hs := by (simp (disch := first | omega | (simp only [zL] <;> omega) | (simp only [push_cast] <;> omega) | fail) only [push_cast, reduceCtorEq, Nat.reduceAdd, Nat.reduceSub, Nat.reduceMul, Nat.reduceEqDiff, Nat.reduceLT, Nat.reduceLeDiff, Nat.reduceMod, Nat.reduceDiv, Int.reduceLE, Int.reduceLT, Int.reduceEq, Int.reduceToNat, Int.reduceAdd, Int.reduceSub, Int.reduceMul, Int.reduceNeg, h2, beq_self_eq_true] <;> rfl)) ?_
   refine xB ?_
   iterate 2 refine yF ?_
   refine yE (yB ?_)
   refine vU (true) (wF ?_) ?_
   ·refine yT ?_ ?_ ?_ <;> simp [rcT, wpT]
   ·exact (decide_eq_true (show aB r from by first | exact .inl h | exact .inr ⟨h1, h2⟩)).symm
  ·skip
   iterate 5 refine yF ?_
   iterate 6 refine xB ?_
   refine xB (hs := by (simp (disch := first | omega | (simp only [zL] <;> omega) | (simp only [push_cast] <;> omega) | fail) only [push_cast, reduceCtorEq, Nat.reduceAdd, Nat.reduceSub, Nat.reduceMul, Nat.reduceEqDiff, Nat.reduceLT, Nat.reduceLeDiff, Nat.reduceMod, Nat.reduceDiv, Int.reduceLE, Int.reduceLT, Int.reduceEq, Int.reduceToNat, Int.reduceAdd, Int.reduceSub, Int.reduceMul, Int.reduceNeg, lQ h2] <;> rfl)) ?_
   refine xB ?_
   iterate 2 refine yF ?_
   refine yE (yB ?_)
   refine vU (false) (wF ?_) ?_
   ·refine yT ?_ ?_ ?_ <;> simp [rcT, wpT]
   ·exact (decide_eq_false (show ¬ aB r from by rintro (hh | ⟨hh, hh2⟩) <;> first | omega | exact h2 hh2)).symm
 ·intro b1 hb1
  refine vE ?_
  refine dR (fun sl L (b : Bool) => ⟨setAll (setBad sl [0, 6, 7, 8, 9, 10, 11, 12, 13, 14, 15, 16, 17, 18, 19, 20, 21, 22, 23, 24, 25, 26, 27]) [(4, .t (bol b))], Go.Ot.look (L)⟩) (fun b => b = decide (yAP r)) ?_ ?_
  ·skip
   refine yA rfl ?_
   rcases (show r.kind = 1 ∨ r.kind = 2 ∨ (r.kind ≠ 1 ∧ r.kind ≠ 2) by omega) with h | h | ⟨h, h1⟩
   ·skip
    iterate 4 refine yF ?_
    iterate 3 refine wJ ?_
    iterate 2 refine yF ?_
    refine yE (yB ?_)
    refine vU (true) (wF ?_) ?_
    ·refine yT ?_ ?_ ?_ <;> simp [rcT, wpT]
    ·exact (decide_eq_true (show yAP r from by first | exact .inl h | exact .inr h)).symm
   ·skip
    iterate 4 refine yF ?_
    iterate 3 refine xB ?_
    iterate 2 refine yF ?_
    refine yE (yB ?_)
    refine vU (true) (wF ?_) ?_
    ·refine yT ?_ ?_ ?_ <;> simp [rcT, wpT]
    ·exact (decide_eq_true (show yAP r from by first | exact .inl h | exact .inr h)).symm
   ·skip
    iterate 4 refine yF ?_
    iterate 3 refine xB ?_
    iterate 2 refine yF ?_
    refine yE (yB ?_)
    refine vU (false) (wF ?_) ?_
    ·refine yT ?_ ?_ ?_ <;> simp [rcT, wpT]
    ·exact (decide_eq_false (show ¬ yAP r from by rintro (hh | hh) <;> omega)).symm
  ·intro b2 hb2
   refine vE ?_
   refine dR (fun sl L (b : Bool) => ⟨setAll (setBad sl [0, 6, 7, 8, 9, 10, 11, 12, 13, 14, 15, 16, 17, 18, 19, 20, 21, 22, 23, 24, 25, 26, 27, 28, 29, 30, 31, 32, 33, 34, 35, 36]) [(5, .t (bol b))], Go.Ot.look (L)⟩) (fun b => b = decide (yHX r)) ?_ ?_
   ·skip
    refine yA rfl ?_
    have h4 : r.tag = [] ∨ (r.tag.length = 16 ∧ r.tag ≠ []) ∨ (r.tag.length ≠ 16 ∧ r.tag ≠ []) := by
     rcases Classical.em (r.tag = []) with h | h <;> simp only [h, not_true, not_false_eq_true, ne_eq, and_true, and_false, or_false, true_or, false_or] <;> omega
    rcases h4 with h | ⟨h, h2⟩ | ⟨h, h2⟩
    ·skip
     iterate 2 refine yF ?_
     refine yF (hs := by (simp (disch := first | omega | (simp only [zL] <;> omega) | (simp only [push_cast] <;> omega) | fail) only [push_cast, reduceCtorEq, Nat.reduceAdd, Nat.reduceSub, Nat.reduceMul, Nat.reduceEqDiff, Nat.reduceLT, Nat.reduceLeDiff, Nat.reduceMod, Nat.reduceDiv, Int.reduceLE, Int.reduceLT, Int.reduceEq, Int.reduceToNat, Int.reduceAdd, Int.reduceSub, Int.reduceMul, Int.reduceNeg, h, beq_self_eq_true] <;> rfl)) ?_
     refine yF ?_
     iterate 4 refine wJ ?_
     iterate 2 refine yF ?_
     refine yE (yB ?_)
     refine vU (true) (wF ?_) ?_
     ·refine yT ?_ ?_ ?_ <;> simp [rcT, wpT]
     ·exact (decide_eq_true (show yHX r from by first | exact .inl h | exact .inr h)).symm
    ·skip
     iterate 2 refine yF ?_
     refine yF (hs := by (simp (disch := first | omega | (simp only [zL] <;> omega) | (simp only [push_cast] <;> omega) | fail) only [push_cast, reduceCtorEq, Nat.reduceAdd, Nat.reduceSub, Nat.reduceMul, Nat.reduceEqDiff, Nat.reduceLT, Nat.reduceLeDiff, Nat.reduceMod, Nat.reduceDiv, Int.reduceLE, Int.reduceLT, Int.reduceEq, Int.reduceToNat, Int.reduceAdd, Int.reduceSub, Int.reduceMul, Int.reduceNeg, lQ h2] <;> rfl)) ?_
     refine yF ?_
     iterate 4 refine xB ?_
     iterate 2 refine yF ?_
     refine yE (yB ?_)
     refine vU (true) (wF ?_) ?_
     ·refine yT ?_ ?_ ?_ <;> simp [rcT, wpT]
     ·exact (decide_eq_true (show yHX r from by first | exact .inl h | exact .inr h)).symm
    ·skip
     iterate 2 refine yF ?_
     refine yF (hs := by (simp (disch := first | omega | (simp only [zL] <;> omega) | (simp only [push_cast] <;> omega) | fail) only [push_cast, reduceCtorEq, Nat.reduceAdd, Nat.reduceSub, Nat.reduceMul, Nat.reduceEqDiff, Nat.reduceLT, Nat.reduceLeDiff, Nat.reduceMod, Nat.reduceDiv, Int.reduceLE, Int.reduceLT, Int.reduceEq, Int.reduceToNat, Int.reduceAdd, Int.reduceSub, Int.reduceMul, Int.reduceNeg, lQ h2] <;> rfl)) ?_
     refine yF ?_
     iterate 4 refine xB ?_
     iterate 2 refine yF ?_
     refine yE (yB ?_)
     refine vU (false) (wF ?_) ?_
     ·refine yT ?_ ?_ ?_ <;> simp [rcT, wpT]
     ·exact (decide_eq_false (show ¬ yHX r from by rintro (hh | hh) <;> first | omega | exact h2 hh)).symm
   ·intro b3 hb3
    refine vE ?_
    refine yD (yA rfl ?_)
    have d1 : b1 = true ↔ aB r := by rw [hb1]; exact decide_eq_true_iff
    have d2 : b2 = true ↔ yAP r := by rw [hb2]; exact decide_eq_true_iff
    have d3 : b3 = true ↔ yHX r := by rw [hb3]; exact decide_eq_true_iff
    clear hb1 hb2 hb3
    have h7 : (r.seq < 1) ∨ (1 ≤ r.seq ∧ 1048576 < r.seq) ∨ ((1 ≤ r.seq ∧ r.seq ≤ 1048576) ∧ b1 = false) ∨ ((1 ≤ r.seq ∧ r.seq ≤ 1048576) ∧ b1 = true ∧ b2 = false) ∨ ((1 ≤ r.seq ∧ r.seq ≤ 1048576) ∧ b1 = true ∧ b2 = true ∧ (r.dev < 0 ∨ 8 ≤ r.dev)) ∨ ((1 ≤ r.seq ∧ r.seq ≤ 1048576) ∧ b1 = true ∧ b2 = true ∧ (0 ≤ r.dev ∧ r.dev < 8) ∧ b3 = false) ∨ ((1 ≤ r.seq ∧ r.seq ≤ 1048576) ∧ b1 = true ∧ b2 = true ∧ (0 ≤ r.dev ∧ r.dev < 8) ∧ b3 = true) := by
     cases b1 <;> cases b2 <;> cases b3 <;> simp <;> omega
    rcases h7 with q | ⟨q, q2⟩ | ⟨⟨q1, q2⟩, rfl⟩ | ⟨⟨q1, q2⟩, rfl, rfl⟩ | ⟨⟨q1, q2⟩, rfl, rfl, q3⟩ | ⟨⟨q1, q2⟩, rfl, rfl, ⟨q3, q4⟩, rfl⟩ | ⟨⟨q1, q2⟩, rfl, rfl, ⟨q3, q4⟩, rfl⟩
    ·have hm : rcB r = false := gZ (fun h => by
      obtain ⟨g1, g2, g3, g4, ⟨g5, g6⟩, g7, g8⟩ := h
      omega)
     iterate 4 refine yF ?_
     iterate 3 refine wJ ?_
     iterate 2 refine yF ?_
     refine wJ ?_
     iterate 2 refine yF ?_
     refine wJ ?_
     iterate 2 refine yF ?_
     iterate 3 refine wJ ?_
     iterate 2 refine yF ?_
     refine wJ ?_
     iterate 2 refine yF ?_
     iterate 3 refine wJ ?_
     iterate 2 refine yF ?_
     refine yE (yB (yC (yO ?_)))
     refine ⟨.inr rfl, yP [] (by rw [results160]) ?_ ?_ ?_⟩ <;> simp [rcT, wpT, hm]
    ·have hm : rcB r = false := gZ (fun h => by
      obtain ⟨g1, g2, g3, g4, ⟨g5, g6⟩, g7, g8⟩ := h
      omega)
     iterate 4 refine yF ?_
     iterate 3 refine xB ?_
     iterate 2 refine yF ?_
     refine wJ ?_
     iterate 2 refine yF ?_
     refine wJ ?_
     iterate 2 refine yF ?_
     iterate 3 refine wJ ?_
     iterate 2 refine yF ?_
     refine wJ ?_
     iterate 2 refine yF ?_
     iterate 3 refine wJ ?_
     iterate 2 refine yF ?_
     refine yE (yB (yC (yO ?_)))
     refine ⟨.inr rfl, yP [] (by rw [results160]) ?_ ?_ ?_⟩ <;> simp [rcT, wpT, hm]
    ·have hm : rcB r = false := gZ (fun h => by
      obtain ⟨g1, g2, g3, g4, ⟨g5, g6⟩, g7, g8⟩ := h
      have := d1.2 g3; cases this)
     iterate 4 refine yF ?_
     iterate 3 refine xB ?_
     iterate 2 refine yF ?_
     refine xB ?_
     iterate 2 refine yF ?_
     refine wJ ?_
     iterate 2 refine yF ?_
     iterate 3 refine wJ ?_
     iterate 2 refine yF ?_
     refine wJ ?_
     iterate 2 refine yF ?_
     iterate 3 refine wJ ?_
     iterate 2 refine yF ?_
     refine yE (yB (yC (yO ?_)))
     refine ⟨.inr rfl, yP [] (by rw [results160]) ?_ ?_ ?_⟩ <;> simp [rcT, wpT, hm]
    ·have hm : rcB r = false := gZ (fun h => by
      obtain ⟨g1, g2, g3, g4, ⟨g5, g6⟩, g7, g8⟩ := h
      have := d2.2 g4; cases this)
     iterate 4 refine yF ?_
     iterate 3 refine xB ?_
     iterate 2 refine yF ?_
     refine xB ?_
     iterate 2 refine yF ?_
     refine xB ?_
     iterate 2 refine yF ?_
     iterate 3 refine wJ ?_
     iterate 2 refine yF ?_
     refine wJ ?_
     iterate 2 refine yF ?_
     iterate 3 refine wJ ?_
     iterate 2 refine yF ?_
     refine yE (yB (yC (yO ?_)))
     refine ⟨.inr rfl, yP [] (by rw [results160]) ?_ ?_ ?_⟩ <;> simp [rcT, wpT, hm]
    ·have hm : rcB r = false := gZ (fun h => by
      obtain ⟨g1, g2, g3, g4, ⟨g5, g6⟩, g7, g8⟩ := h
      omega)
     iterate 4 refine yF ?_
     iterate 3 refine xB ?_
     iterate 2 refine yF ?_
     refine xB ?_
     iterate 2 refine yF ?_
     refine xB ?_
     iterate 2 refine yF ?_
     iterate 2 refine xB ?_
     refine wT [] false (yHy Γ r.dev q3) ?_
     iterate 2 refine yF ?_
     refine wJ ?_
     iterate 2 refine yF ?_
     iterate 3 refine wJ ?_
     iterate 2 refine yF ?_
     refine yE (yB (yC (yO ?_)))
     refine ⟨.inr rfl, yP [] (by rw [results160]) ?_ ?_ ?_⟩ <;> simp [rcT, wpT, hm]
    ·have hm : rcB r = false := gZ (fun h => by
      obtain ⟨g1, g2, g3, g4, ⟨g5, g6⟩, g7, g8⟩ := h
      have := d3.2 g7; cases this)
     iterate 4 refine yF ?_
     iterate 3 refine xB ?_
     iterate 2 refine yF ?_
     refine xB ?_
     iterate 2 refine yF ?_
     refine xB ?_
     iterate 2 refine yF ?_
     iterate 2 refine xB ?_
     refine wT [] false (eJ Γ r.dev q3 q4) ?_
     iterate 2 refine yF ?_
     refine xB ?_
     iterate 2 refine yF ?_
     iterate 3 refine wJ ?_
     iterate 2 refine yF ?_
     refine yE (yB (yC (yO ?_)))
     refine ⟨.inr rfl, yP [] (by rw [results160]) ?_ ?_ ?_⟩ <;> simp [rcT, wpT, hm]
    ·have hm : rcB r = mwB r.wraps := by
      rcases e : mwB r.wraps with _ | _
      ·exact gZ (fun h => by have := h.2.2.2.2.2.2; rw [e] at this; cases this)
      ·exact yFV ⟨q1, q2, d1.1 rfl, d2.1 rfl, ⟨q3, q4⟩, d3.1 rfl, e⟩
     iterate 4 refine yF ?_
     iterate 3 refine xB ?_
     iterate 2 refine yF ?_
     refine xB ?_
     iterate 2 refine yF ?_
     refine xB ?_
     iterate 2 refine yF ?_
     iterate 2 refine xB ?_
     refine wT [] false (eJ Γ r.dev q3 q4) ?_
     iterate 2 refine yF ?_
     refine xB ?_
     iterate 2 refine yF ?_
     iterate 2 refine xB ?_
     refine wT [] false (yII Γ r.wraps hl) ?_
     iterate 2 refine yF ?_
     refine yE (yB (yC (yO ?_)))
     refine ⟨.inr rfl, yP [] (by rw [results160]) ?_ ?_ ?_⟩ <;> simp [rcT, wpT, hm]
end Go.Proofs.Tryz
