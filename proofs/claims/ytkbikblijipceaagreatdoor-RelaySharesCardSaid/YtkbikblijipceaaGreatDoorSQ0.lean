/- Contracts of this program's functions. -/
import Derived.Test.YtkbikblijipceaaGreatDoorSV0
set_option maxHeartbeats 4000000
set_option maxRecDepth 100000
set_option linter.unusedVariables false
set_option linter.unusedSimpArgs false
namespace Go.Proofs.Tryz
open Go Go.Ot

abbrev rqW (k d n : Int) (b : List UInt8) : Wr := .mk 3 0 [] [.mk 1 k [] [], .mk 1 d [] [], .mk 1 n [] [], .mk 2 0 b []]
abbrev rpW (k d n : Int) (l : List (List UInt8)) : Wr := .mk 3 0 [] [.mk 1 k [] [], .mk 1 d [] [], .mk 1 n [] [], .mk 3 0 [] (txtsW l)]
def i64r (n : Int) : Prop := -9223372036854775808 ≤ n ∧ n ≤ 9223372036854775807
theorem rqW_may (k d n : Int) (b : List UInt8) : mayW 6 (rqW k d n b) = decide (b.length ≤ 1048576) := by
 rw [rqW, listW_may]; simp [numW_may, txtW_may]
theorem rqW_len (k d n : Int) (b : List UInt8) : (putW 6 (rqW k d n b)).length = 37 + b.length := by
 rw [rqW, listW_put]; simp only [List.flatMap_cons, List.flatMap_nil, List.length_append, List.length_nil, numW_put, txtW_put]; omega
theorem rqW_rng {k d n : Int} {b : List UInt8} (hk : i64r k) (hd : i64r d) (hn : i64r n) : rangeW 6 (rqW k d n b) := by
 rw [rqW, rangeW_mk]
 refine ⟨by omega, fun x hx => ?_⟩
 simp only [List.mem_cons, List.not_mem_nil, or_false] at hx
 rcases hx with rfl | rfl | rfl | rfl
 ·exact ⟨hk, fun x hx => by cases hx⟩
 ·exact ⟨hd, fun x hx => by cases hx⟩
 ·exact ⟨hn, fun x hx => by cases hx⟩
 ·exact ⟨by omega, fun x hx => by cases hx⟩
theorem rpW_may (k d n : Int) (l : List (List UInt8)) : mayW 6 (rpW k d n l) = (decide (l.length ≤ 65536) && l.all fun s => decide (s.length ≤ 1048576)) := by
 rw [rpW, listW_may]; simp [numW_may, listW_may, txts_may, txtsW_len]
theorem rpW_len (k d n : Int) (l : List (List UInt8)) : (putW 6 (rpW k d n l)).length = 37 + tsz l := by
 rw [rpW, listW_put]; simp only [List.flatMap_cons, List.flatMap_nil, List.length_append, List.length_nil, numW_put, listW_put, txts_put]; omega
theorem rpW_rng {k d n : Int} {l : List (List UInt8)} (hk : i64r k) (hd : i64r d) (hn : i64r n) : rangeW 6 (rpW k d n l) := by
 rw [rpW, rangeW_mk]
 refine ⟨by omega, fun x hx => ?_⟩
 simp only [List.mem_cons, List.not_mem_nil, or_false] at hx
 rcases hx with rfl | rfl | rfl | rfl
 ·exact ⟨hk, fun x hx => by cases hx⟩
 ·exact ⟨hd, fun x hx => by cases hx⟩
 ·exact ⟨hn, fun x hx => by cases hx⟩
 ·refine ⟨by omega, fun x hx => ?_⟩
  obtain ⟨s, _, rfl⟩ := List.mem_map.1 hx
  exact ⟨by omega, fun x hx => by cases hx⟩
theorem rqW_sz (k d n : Int) (b : List UInt8) : (rqW k d n b).sz = 5 := by simp [rqW, Wr.sz, Wr.szL]
theorem rpW_sz (k d n : Int) (l : List (List UInt8)) : (rpW k d n l).sz = 5 + l.length := by simp [rpW, Wr.sz, Wr.szL, szL_txts]; omega
def part (W : Wr) (i : Nat) : Wr := W.l.getD i Wr.z
structure Rq where
 k : Int
 d : Int
 n : Int
 b : List UInt8
 deriving DecidableEq
structure Rp where
 k : Int
 d : Int
 n : Int
 l : List (List UInt8)
 deriving DecidableEq
def Rq.w (q : Rq) : Wr := rqW q.k q.d q.n q.b
def Rp.w (q : Rp) : Wr := rpW q.k q.d q.n q.l
def Rq.p (q : Rq) : List UInt8 := PutW q.w
def Rp.p (q : Rp) : List UInt8 := PutW q.w
def Rq.ok (q : Rq) : Prop := i64r q.k ∧ i64r q.d ∧ i64r q.n
def Rp.ok (q : Rp) : Prop := i64r q.k ∧ i64r q.d ∧ i64r q.n
def Rq.z : Rq := ⟨0, 0, 0, []⟩
def Rp.z : Rp := ⟨0, 0, 0, []⟩
def qOf (W : Wr) : Rq := ⟨(part W 0).n, (part W 1).n, (part W 2).n, (part W 3).s⟩
def pOf (W : Wr) : Rp := ⟨(part W 0).n, (part W 1).n, (part W 2).n, wTs (part W 3).l⟩
theorem qOf_w (q : Rq) : qOf q.w = q := rfl
theorem pOf_w (q : Rp) : pOf q.w = q := by
 show (⟨q.k, q.d, q.n, wTs (txtsW q.l)⟩ : Rp) = q
 rw [wTs_txts]
theorem part_rng {W : Wr} (h : rangeW 6 W) (i : Nat) : i64r (part W i).n := by
 rw [part, List.getD_eq_getElem?_getD]
 cases e : W.l[i]? with
 | none => simp only [Option.getD_none, Wr.z_eq, Wr.n_mk]; exact ⟨by omega, by omega⟩
 | some x =>
  cases W with
  | mk k n s l => exact rangeW_num 5 x (h.2 x (List.mem_of_getElem? e))
theorem rng_z : rangeW 6 Wr.z := by rw [Wr.z_eq, rangeW_mk]; exact ⟨by omega, fun x hx => by cases hx⟩
theorem got_rng (s : List UInt8) : rangeW 6 ((got s).getD Wr.z) := by
 cases h : got s with
 | none => exact rng_z
 | some W => exact (got_get h).2.1
theorem qOf_ok (s : List UInt8) : (qOf ((got s).getD Wr.z)).ok := ⟨part_rng (got_rng s) 0, part_rng (got_rng s) 1, part_rng (got_rng s) 2⟩
/-- What bytes say of a request. -/
def GQ (s : List UInt8) : Option Rq := if s = [] ∨ (qOf ((got s).getD Wr.z)).p ≠ s then none else some (qOf ((got s).getD Wr.z))
def GP (s : List UInt8) : Option Rp := if s = [] ∨ (pOf ((got s).getD Wr.z)).p ≠ s then none else some (pOf ((got s).getD Wr.z))
theorem got_of_p {w : Wr} (hr : rangeW 6 w) (h : PutW w ≠ []) : mayW 6 w = true ∧ got (PutW w) = some w := by
 cases e : mayW 6 w with
 | false => exact absurd (PutW_f e) h
 | true => exact ⟨rfl, got_PutW e hr⟩
theorem GQ_some {s : List UInt8} {q : Rq} (h : GQ s = some q) : s ≠ [] ∧ q.p = s ∧ q.ok ∧ mayW 6 q.w = true ∧ got s = some q.w := by
 rw [GQ] at h
 split at h
 ·cases h
 ·rename_i hn
  simp only [not_or, ne_eq, Decidable.not_not] at hn
  cases h
  have hok := qOf_ok s
  obtain ⟨h1, h2⟩ := got_of_p (w := (qOf ((got s).getD Wr.z)).w) (rqW_rng hok.1 hok.2.1 hok.2.2) (by show Rq.p _ ≠ []; rw [hn.2]; exact hn.1)
  have h2 : got (qOf ((got s).getD Wr.z)).p = some (qOf ((got s).getD Wr.z)).w := h2
  rw [hn.2] at h2
  exact ⟨hn.1, hn.2, hok, h1, h2⟩
theorem GQ_p {q : Rq} (h : mayW 6 q.w = true) (hok : q.ok) : GQ q.p = some q := by
 have hg : got q.p = some q.w := got_PutW h (rqW_rng hok.1 hok.2.1 hok.2.2)
 have hne : q.p ≠ [] := PutW_ne h
 rw [GQ, hg, Option.getD_some, qOf_w, if_neg (by simp [hne])]
theorem GP_p {q : Rp} (h : mayW 6 q.w = true) (hok : q.ok) : GP q.p = some q := by
 have hg : got q.p = some q.w := got_PutW h (rpW_rng hok.1 hok.2.1 hok.2.2)
 have hne : q.p ≠ [] := PutW_ne h
 rw [GP, hg, Option.getD_some, pOf_w, if_neg (by simp [hne])]
theorem GQ_no {s : List UInt8} (h : got s = none) : GQ s = none := by
 cases e : GQ s with
 | none => rfl
 | some q => have := (GQ_some e).2.2.2.2; rw [h] at this; cases this
theorem GQ_no4 {s : List UInt8} {W : Wr} (h : got s = some W) (h4 : W.l.length ≠ 4) : GQ s = none := by
 cases e : GQ s with
 | none => rfl
 | some q => have := (GQ_some e).2.2.2.2; rw [h] at this; cases this; exact absurd rfl h4
theorem s_ne {s : List UInt8} {W : Wr} (h : got s = some W) : s ≠ [] := fun e => by rw [e, got_nil] at h; cases h
theorem GQ_y {s : List UInt8} {W : Wr} (h : got s = some W) (h2 : (qOf W).p = s) : GQ s = some (qOf W) := by rw [GQ, h, Option.getD_some, if_neg (by simp [h2, s_ne h])]
theorem GQ_n {s : List UInt8} {W : Wr} (h : got s = some W) (h2 : (qOf W).p ≠ s) : GQ s = none := by rw [GQ, h, Option.getD_some, if_pos (.inr h2)]
theorem may_tx : ∀ (d : Nat) (x : Wr), mayW d x = true → 5 + x.s.length ≤ (putW d x).length := by
 have key : ∀ (deep : Bool) (sub : Wr → Bool) (put : Wr → List UInt8) (x : Wr), mayS deep sub x = true → 5 + x.s.length ≤ (putS put x).length := by
  intro deep sub put x hm
  cases x with
  | mk k n s l =>
   rw [Wr.s_mk]
   rcases mayS_k hm with rfl | ⟨rfl, hs⟩ | ⟨rfl, hl, hml⟩
   ·rw [mayS_1] at hm
    simp only [Bool.and_eq_true, beq_iff_eq] at hm
    rw [hm.1, putS_1, List.length_cons, nb_len]; simp
   ·rw [putS_2, List.length_cons, List.length_append, nb_len]; omega
   ·rw [mayS_3] at hm
    simp only [Bool.and_eq_true, beq_iff_eq] at hm
    rw [hm.1.1.2, putS_3, List.length_cons, List.length_append, nb_len]; simp
 intro d x h
 cases d with
 | zero => rw [putW_z]; rw [mayW_z] at h; exact key _ _ _ x h
 | succ d => rw [putW_s]; rw [mayW_s] at h; exact key _ _ _ x h
theorem wTs_le (d : Nat) : ∀ l : List Wr, (∀ x ∈ l, mayW d x = true) → tsz (wTs l) ≤ (l.flatMap (putW d)).length
 | [], _ => by simp [tsz, wTs]
 | x :: l, h => by
  have h1 := may_tx d x (h x (by simp))
  have h2 := wTs_le d l (fun y hy => h y (by simp [hy]))
  simp only [tsz, wTs, List.map_cons, List.sum_cons, List.flatMap_cons, List.length_append] at h2 ⊢
  omega
theorem kids_le {d : Nat} {k n : Int} {s : List UInt8} {l : List Wr} (h : mayW (d + 1) (.mk k n s l) = true) : (∀ x ∈ l, mayW d x = true) ∧ (l.flatMap (putW d)).length ≤ (putW (d + 1) (.mk k n s l)).length := by
 rw [mayW_s] at h
 rcases mayS_k h with rfl | ⟨rfl, hs⟩ | ⟨rfl, hl, hml⟩
 ·rw [mayS_1] at h
  simp only [Bool.and_eq_true, decide_eq_true_eq] at h
  have : l = [] := List.eq_nil_of_length_eq_zero h.2
  subst this
  exact ⟨(fun x hx => by cases hx), by simp⟩
 ·rw [mayS_2] at h
  simp only [Bool.and_eq_true, decide_eq_true_eq] at h
  have : l = [] := List.eq_nil_of_length_eq_zero h.1.2
  subst this
  exact ⟨(fun x hx => by cases hx), by simp⟩
 ·exact ⟨hml, by rw [putW_s, putS_3, List.length_cons, List.length_append, nb_len]; omega⟩
theorem mem_flat {f : Wr → List UInt8} {l : List Wr} {x : Wr} (h : x ∈ l) : (f x).length ≤ (l.flatMap f).length := by
 induction l with
 | nil => cases h
 | cons a l ih =>
  simp only [List.flatMap_cons, List.length_append]
  rcases List.mem_cons.1 h with rfl | h
  ·omega
  ·have := ih h; omega
theorem part_texts {s : List UInt8} {W : Wr} (h : got s = some W) (i : Nat) : tsz (wTs (part W i).l) ≤ s.length := by
 obtain ⟨h1, _, h2⟩ := got_get h
 rw [part, List.getD_eq_getElem?_getD]
 cases e : W.l[i]? with
 | none => simp [Wr.z_eq, Wr.l_mk, tsz, wTs]
 | some x =>
  rw [Option.getD_some]
  have hx := List.mem_of_getElem? e
  cases W with
  | mk k n s' l =>
   obtain ⟨h3, h4⟩ := kids_le (d := 5) h1
   have hx : x ∈ l := hx
   have h5 := mem_flat (f := putW 5) hx
   cases x with
   | mk k' n' s'' l' =>
    obtain ⟨h6, h7⟩ := kids_le (d := 4) (h3 _ hx)
    have h8 := wTs_le 4 l' h6
    have h4 : (l.flatMap (putW 5)).length ≤ (putW 6 (.mk k n s' l)).length := h4
    have h7 : (l'.flatMap (putW 4)).length ≤ (putW 5 (.mk k' n' s'' l')).length := h7
    rw [Wr.l_mk, h2]
    omega
theorem wTs_take (l : List Wr) : (wTs l).take l.length = wTs l := by rw [← wTs_len l]; exact List.take_length
theorem tsz_len : ∀ l : List (List UInt8), 5 * l.length ≤ tsz l
 | [] => by simp [tsz]
 | a :: l => by have := tsz_len l; simp only [tsz, List.map_cons, List.sum_cons, List.length_cons] at this ⊢; omega
theorem rp_len {q : Rp} : mayW 6 q.w = true → (putW 6 q.w).length ≤ 37 + tsz q.l := fun _ => Nat.le_of_eq (rpW_len q.k q.d q.n q.l)
theorem rq_len {q : Rq} (h : mayW 6 q.w = true) : (putW 6 q.w).length ≤ 1048613 := by
 have h1 := rqW_len q.k q.d q.n q.b
 have h2 := rqW_may q.k q.d q.n q.b
 have h : mayW 6 (rqW q.k q.d q.n q.b) = true := h
 rw [h2] at h
 have h := of_decide_eq_true h
 show (putW 6 (rqW q.k q.d q.n q.b)).length ≤ _
 omega
def qA (q : Rq) : D := .agg [.t (num q.k), .t (num q.d), .t (num q.n), .t (txt q.b)]
def pA (q : Rp) : D := .agg [.t (num q.k), .t (num q.d), .t (num q.n), .t (lst txt q.l)]
@[push_cast] theorem qA_eq (q : Rq) : qA q = .agg [.t (num q.k), .t (num q.d), .t (num q.n), .t (txt q.b)] := rfl
@[push_cast] theorem pA_eq (q : Rp) : pA q = .agg [.t (num q.k), .t (num q.d), .t (num q.n), .t (.sl q.l.length (q.l.map txt))] := rfl
theorem part_four {W : Wr} {a b c d : Wr} (h : W.l = [a, b, c, d]) : qOf W = ⟨a.n, b.n, c.n, d.s⟩ ∧ pOf W = ⟨a.n, b.n, c.n, wTs d.l⟩ := by
 cases W with
 | mk k n s l => rw [Wr.l_mk] at h; subst h; exact ⟨rfl, rfl⟩
theorem four_of {W : Wr} (h : W.l.length = 4) : ∃ a b c d, W.l = [a, b, c, d] := by
 match e : W.l with
 | [a, b, c, d] => exact ⟨a, b, c, d, rfl⟩
 | [] | [_] | [_, _] | [_, _, _] | _ :: _ :: _ :: _ :: _ :: _ => rw [e] at h; simp at h

end Go.Proofs.Tryz
