/- Contracts of this program's functions. -/
import Derived.Test.YtppicdhlpdhoiaaDoorSSL0
set_option maxHeartbeats 4000000
set_option maxRecDepth 100000
set_option linter.unusedVariables false
set_option linter.unusedSimpArgs false
namespace Go.Proofs.Tryd
open Go Go.Ot
/-! ### states as wires -/
def rW (r : Rn) : Wr := .mk 3 0 [] [.mk 1 r.dev [] [], .mk 1 r.fr [] [], .mk 1 r.to [] []]
def fW (f : Ft) : Wr := .mk 3 0 [] [.mk 1 f.dev [] [], .mk 1 f.n [] [], .mk 2 0 f.key [], .mk 1 f.kind [] [], .mk 2 0 f.item [], .mk 1 f.m [] []]
def stW (s : Sa) : Wr := .mk 3 0 [] [.mk 3 0 [] (s.seen.map rW), .mk 3 0 [] (s.fs.map fW)]
theorem map_next {α β : Type} [Inhabited α] {f : α → β} {l : List α} {i : Nat} (h : i < l.length) : (l.take (i + 1)).map f = (l.take i).map f ++ [f (l.getD i default)] := by
 rw [List.take_add_one, List.getElem?_eq_getElem h, List.map_append, getD_eq h]; rfl
theorem szL_rW : ∀ l : List Rn, Wr.szL (l.map rW) = 4 * l.length
 | [] => rfl
 | a :: l => by have := szL_rW l; simp only [List.map_cons, rW, Wr.szL, Wr.sz, List.length_cons] at this ⊢; omega
theorem szL_fW : ∀ l : List Ft, Wr.szL (l.map fW) = 7 * l.length
 | [] => rfl
 | a :: l => by have := szL_fW l; simp only [List.map_cons, fW, Wr.szL, Wr.sz, List.length_cons] at this ⊢; omega
def fsz (l : List Ft) : Nat := (l.map fun f => 51 + f.key.length + f.item.length).sum
theorem rW_put (d : Nat) : ∀ l : List Rn, ((l.map rW).flatMap (putW (d + 1))).length = 32 * l.length
 | [] => rfl
 | a :: l => by
  have ih := rW_put d l
  have h1 : (putW (d + 1) (rW a)).length = 32 := by
   rw [rW, listW_put]; simp only [List.flatMap_cons, List.flatMap_nil, List.length_append, List.length_nil, numW_put]
  simp only [List.map_cons, List.flatMap_cons, List.length_append, List.length_cons, ih, h1]; omega
theorem fW_put (d : Nat) : ∀ l : List Ft, ((l.map fW).flatMap (putW (d + 1))).length = fsz l
 | [] => rfl
 | a :: l => by
  have ih := fW_put d l
  have h1 : (putW (d + 1) (fW a)).length = 51 + a.key.length + a.item.length := by
   rw [fW, listW_put]; simp only [List.flatMap_cons, List.flatMap_nil, List.length_append, List.length_nil, numW_put, txtW_put]; omega
  simp only [List.map_cons, List.flatMap_cons, List.length_append, ih, h1, fsz, List.sum_cons]
theorem stW_put (s : Sa) : (putW 6 (stW s)).length = 15 + 32 * s.seen.length + fsz s.fs := by
 rw [stW, listW_put]; simp only [List.flatMap_cons, List.flatMap_nil, List.length_append, List.length_nil, listW_put, rW_put, fW_put]; omega
theorem fsz_le : ∀ {l : List Ft}, (∀ f ∈ l, ftP f) → fsz l ≤ 291 * l.length
 | [], _ => Nat.le_refl _
 | a :: l, h => by
  have ih := fsz_le (l := l) (fun f hf => h f (by simp [hf]))
  have ha := h a (by simp)
  have h1 : a.key.length ≤ 40 ∧ a.item.length ≤ 200 := by
   refine ⟨ha.1, ?_⟩
   rcases ha.2 with h2 | h2
   ·exact h2.2.1
   ·simp [h2.2.1]
  simp only [fsz, List.map_cons, List.sum_cons, List.length_cons] at ih ⊢
  omega
theorem ft_txt {f : Ft} (h : ftP f) : f.key.length ≤ 1048576 ∧ f.item.length ≤ 1048576 := by
 refine ⟨by have := h.1; omega, ?_⟩
 rcases h.2 with h2 | h2
 ·have := h2.2.1; omega
 ·simp [h2.2.1]
theorem st_may {s : Sa} (h : saQ s) (hl : s.seen.length ≤ 65536) : mayW 6 (stW s) = true := by
 rw [stW, listW_may]
 have h1 : (s.seen.map rW).all (mayW 4) = true := by
  rw [List.all_eq_true]
  intro x hx
  obtain ⟨r, _, rfl⟩ := List.mem_map.1 hx
  rw [rW, listW_may]; simp [numW_may]
 have h2 : (s.fs.map fW).all (mayW 4) = true := by
  rw [List.all_eq_true]
  intro x hx
  obtain ⟨f, hf, rfl⟩ := List.mem_map.1 hx
  have := ft_txt (h.fts f hf).1
  rw [fW, listW_may]; simp [numW_may, txtW_may, this]
 have := h.few
 simp [listW_may, h1, h2, hl]
 omega
theorem st_rng {s : Sa} (h : saQ s) : rangeW 6 (stW s) := by
 rw [stW, rangeW_mk]
 refine ⟨by omega, fun x hx => ?_⟩
 simp only [List.mem_cons, List.not_mem_nil, or_false] at hx
 rcases hx with rfl | rfl
 ·refine ⟨by omega, fun y hy => ?_⟩
  obtain ⟨r, hr, rfl⟩ := List.mem_map.1 hy
  obtain ⟨p1, p2, p3, p4, p5⟩ := h.runs.1 r hr
  refine ⟨by omega, fun z hz => ?_⟩
  simp only [List.mem_cons, List.not_mem_nil, or_false] at hz
  rcases hz with rfl | rfl | rfl <;> exact ⟨⟨by omega, by omega⟩, fun x hx => by cases hx⟩
 ·refine ⟨by omega, fun y hy => ?_⟩
  obtain ⟨f, hf, rfl⟩ := List.mem_map.1 hy
  have h1 := h.fts f hf
  obtain ⟨r, hr, e1, e2, e3⟩ := hasB_iff.1 h1.2
  obtain ⟨p1, p2, p3, p4, p5⟩ := h.runs.1 r hr
  have h3 := h1.1.2
  refine ⟨by omega, fun z hz => ?_⟩
  simp only [List.mem_cons, List.not_mem_nil, or_false] at hz
  rcases hz with rfl | rfl | rfl | rfl | rfl | rfl <;> exact ⟨⟨by omega, by omega⟩, fun x hx => by cases hx⟩
/-- A state's bytes. -/
def stF (s : Sa) : List UInt8 := if saB s = true then PutW (stW s) else []
theorem stF_t {s : Sa} (h : saB s = true) : stF s = PutW (stW s) := if_pos h
theorem stF_f {s : Sa} (h : saB s = false) : stF s = [] := by rw [stF, h]; rfl
theorem st_small {s : Sa} (h : saB s = true) (hl : s.seen.length ≤ 100000) : (putW 6 (stW s)).length ≤ 100000000 := by
 have h := saB_q.1 h
 have h1 := fsz_le (fun f hf => (h.fts f hf).1)
 have h2 := h.few
 rw [stW_put]; omega
theorem stF_put {s : Sa} (h : saB s = true) (hl : s.seen.length ≤ 65536) : stF s = putW 6 (stW s) := by rw [stF_t h, PutW_t (st_may (saB_q.1 h) hl)]
theorem stF_len {s : Sa} (h : saB s = true) (hl : s.seen.length ≤ 65536) : (stF s).length = 15 + 32 * s.seen.length + fsz s.fs := by rw [stF_put h hl, stW_put]
theorem st_got {s : Sa} (h : saB s = true) (hl : s.seen.length ≤ 65536) : got (stF s) = some (stW s) := by rw [stF_t h]; exact got_PutW (st_may (saB_q.1 h) hl) (st_rng (saB_q.1 h))
theorem st_ne {s : Sa} (h : saB s = true) (hl : s.seen.length ≤ 65536) : stF s ≠ [] := by rw [stF_t h]; exact PutW_ne (st_may (saB_q.1 h) hl)
theorem st_of_ne {s : Sa} (h : stF s ≠ []) : saB s = true := by
 rcases e : saB s with _ | _
 ·exact absurd (stF_f e) h
 ·rfl
/-! ### what wires say -/
def rnOf (x : Wr) : Rn := ⟨(x.l.getD 0 Wr.z).n, (x.l.getD 1 Wr.z).n, (x.l.getD 2 Wr.z).n⟩
def ftOf (x : Wr) : Ft := ⟨(x.l.getD 0 Wr.z).n, (x.l.getD 1 Wr.z).n, (x.l.getD 2 Wr.z).s, (x.l.getD 3 Wr.z).n, (x.l.getD 4 Wr.z).s, (x.l.getD 5 Wr.z).n⟩
def stOf (W : Wr) : Sa := ⟨(W.l.getD 0 Wr.z).l.map rnOf, (W.l.getD 1 Wr.z).l.map ftOf⟩
theorem rnOf_rW (l : List Rn) : (l.map rW).map rnOf = l := by
 rw [List.map_map]; conv => rhs; rw [← List.map_id l]
 exact List.map_congr_left fun r _ => rfl
theorem ftOf_fW (l : List Ft) : (l.map fW).map ftOf = l := by
 rw [List.map_map]; conv => rhs; rw [← List.map_id l]
 exact List.map_congr_left fun r _ => rfl
theorem stOf_stW (s : Sa) : stOf (stW s) = s := by
 show (⟨(s.seen.map rW).map rnOf, (s.fs.map fW).map ftOf⟩ : Sa) = s
 rw [rnOf_rW, ftOf_fW]
/-- What bytes say of a state. -/
def GS (s : List UInt8) : Option Sa := if s = [] ∨ stF (stOf ((got s).getD Wr.z)) ≠ s then none else some (stOf ((got s).getD Wr.z))
theorem may_l {d : Nat} {w : Wr} (h : mayW (d + 1) w = true) : w.l.length ≤ 65536 ∧ ∀ x ∈ w.l, mayW d x = true := by
 obtain ⟨k, n, s, l⟩ := w
 rw [mayW_s] at h
 rcases (show k = 1 ∨ k = 2 ∨ k = 3 ∨ (k ≠ 1 ∧ k ≠ 2 ∧ k ≠ 3) by omega) with rfl | rfl | rfl | h4
 ·rw [mayS_1] at h
  simp only [Bool.and_eq_true, decide_eq_true_eq, List.length_eq_zero_iff] at h
  obtain ⟨_, rfl⟩ := h
  exact ⟨by simp [Wr.l], fun x hx => by cases hx⟩
 ·rw [mayS_2] at h
  simp only [Bool.and_eq_true, decide_eq_true_eq, List.length_eq_zero_iff] at h
  obtain ⟨⟨_, rfl⟩, _⟩ := h
  exact ⟨by simp [Wr.l], fun x hx => by cases hx⟩
 ·rw [mayS_3] at h
  simp only [Bool.and_eq_true, decide_eq_true_eq, List.all_eq_true] at h
  exact ⟨h.1.2, h.2⟩
 ·rw [mayS_o h4] at h; cases h
theorem stOf_few {s : List UInt8} {W : Wr} (h : got s = some W) : (stOf W).seen.length ≤ 65536 ∧ (stOf W).fs.length ≤ 65536 := by
 have h1 := may_l (got_get h).1
 have key : ∀ i, (W.l.getD i Wr.z).l.length ≤ 65536 := fun i => by
  rcases Nat.lt_or_ge i W.l.length with h2 | h2
  ·have h3 : W.l.getD i Wr.z ∈ W.l := by simp [List.getD_eq_getElem?_getD, List.getElem?_eq_getElem h2]
   exact (may_l (h1.2 _ h3)).1
  ·rw [List.getD_eq_getElem?_getD, List.getElem?_eq_none h2]; exact Nat.zero_le _
 exact ⟨by simpa [stOf] using key 0, by simpa [stOf] using key 1⟩
theorem GS_some {s : List UInt8} {x : Sa} (h : GS s = some x) : s ≠ [] ∧ stF x = s ∧ saB x = true ∧ got s = some (stW x) := by
 rw [GS] at h
 split at h
 ·cases h
 ·rename_i hn
  simp only [not_or, ne_eq, Decidable.not_not] at hn
  cases h
  have hp : saB (stOf ((got s).getD Wr.z)) = true := st_of_ne (by rw [hn.2]; exact hn.1)
  have hl : (stOf ((got s).getD Wr.z)).seen.length ≤ 65536 := by
   rcases e : got s with _ | W
   ·simp [stOf, Wr.z, Wr.l]
   ·exact (stOf_few e).1
  refine ⟨hn.1, hn.2, hp, ?_⟩
  have := st_got hp hl
  rwa [hn.2] at this
theorem GS_st {x : Sa} (h : saB x = true) (hl : x.seen.length ≤ 65536) : GS (stF x) = some x := by
 rw [GS, st_got h hl, Option.getD_some, stOf_stW, if_neg (by simp [st_ne h hl])]
theorem GS_no {s : List UInt8} (h : got s = none) : GS s = none := by
 cases e : GS s with
 | none => rfl
 | some q => have := (GS_some e).2.2.2; rw [h] at this; cases this
theorem GS_no2 {s : List UInt8} {W : Wr} (h : got s = some W) (h6 : W.l.length ≠ 2) : GS s = none := by
 cases e : GS s with
 | none => rfl
 | some q => have := (GS_some e).2.2.2; rw [h] at this; cases this; exact absurd rfl h6
theorem GS_no3 {s : List UInt8} {W a b : Wr} (h : got s = some W) (hl : W.l = [a, b]) {i : Nat} (hi : i < a.l.length) (h2 : (a.l.getD i default).l.length ≠ 3) : GS s = none := by
 cases e : GS s with
 | none => rfl
 | some q =>
  have := (GS_some e).2.2.2
  rw [h] at this
  cases this
  have hl : [Wr.mk 3 0 [] (q.seen.map rW), .mk 3 0 [] (q.fs.map fW)] = [a, b] := hl
  simp only [List.cons.injEq, and_true] at hl
  obtain ⟨rfl, _⟩ := hl
  have hi : i < (q.seen.map rW).length := hi
  have h2 : ((q.seen.map rW).getD i default).l.length ≠ 3 := h2
  rw [getD_eq hi, List.getElem_map] at h2
  exact absurd rfl h2
theorem GS_no6 {s : List UInt8} {W a b : Wr} (h : got s = some W) (hl : W.l = [a, b]) {i : Nat} (hi : i < b.l.length) (h2 : (b.l.getD i default).l.length ≠ 6) : GS s = none := by
 cases e : GS s with
 | none => rfl
 | some q =>
  have := (GS_some e).2.2.2
  rw [h] at this
  cases this
  have hl : [Wr.mk 3 0 [] (q.seen.map rW), .mk 3 0 [] (q.fs.map fW)] = [a, b] := hl
  simp only [List.cons.injEq, and_true] at hl
  obtain ⟨_, rfl⟩ := hl
  have hi : i < (q.fs.map fW).length := hi
  have h2 : ((q.fs.map fW).getD i default).l.length ≠ 6 := h2
  rw [getD_eq hi, List.getElem_map] at h2
  exact absurd rfl h2
theorem got_sne {s : List UInt8} {W : Wr} (h : got s = some W) : s ≠ [] := fun e => by rw [e, got_nil] at h; cases h
theorem GS_y {s : List UInt8} {W : Wr} (h : got s = some W) (h2 : stF (stOf W) = s) : GS s = some (stOf W) := by rw [GS, h, Option.getD_some, if_neg (by simp [h2, got_sne h])]
theorem GS_n {s : List UInt8} {W : Wr} (h : got s = some W) (h2 : stF (stOf W) ≠ s) : GS s = none := by rw [GS, h, Option.getD_some, if_pos (.inr h2)]
/-! ### two states have one text just if they are one -/
theorem st_inj {s t : Sa} (hs : saB s = true) (ht : saB t = true) (ls : s.seen.length ≤ 65536) (lt : t.seen.length ≤ 65536) (h : stF s = stF t) : s = t := by
 have h1 := st_got hs ls
 rw [h, st_got ht lt] at h1
 have := congrArg stOf (Option.some.inj h1)
 rw [stOf_stW, stOf_stW] at this
 exact this.symm
theorem GS_cut {s : Sa} (h : saB s = true) (hl : s.seen.length ≤ 65536) {k : Nat} (hk : k < (stF s).length) : GS ((stF s).take k) = none := by
 refine GS_no (got_cut (t := (stF s).drop k) (w := stW s) ?_ ?_)
 ·rw [List.take_append_drop]; exact st_got h hl
 ·intro e
  have := congrArg List.length e
  simp at this; omega
theorem GS_more {s : Sa} (h : saB s = true) (hl : s.seen.length ≤ 65536) (m : UInt8) : GS (stF s ++ [m]) = none := by
 rw [stF_t h]; exact GS_no (got_more (st_may (saB_q.1 h) hl) (st_rng (saB_q.1 h)))
theorem GS_turn {s : Sa} {i : Nat} {b : UInt8} (hi : i < (stF s).length) (hb : b ≠ 0) {y : Sa} (hy : GS ((stF s).set i ((stF s).getD i 0 ^^^ b)) = some y) : y ≠ s ∧ saB y = true := by
 have h2 := GS_some hy
 refine ⟨fun e => ?_, h2.2.2.1⟩
 subst e
 exact set_ne hi hb h2.2.1.symm

end Go.Proofs.Tryd
