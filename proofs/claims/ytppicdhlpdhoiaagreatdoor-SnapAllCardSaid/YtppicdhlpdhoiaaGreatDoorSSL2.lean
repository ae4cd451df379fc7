/- Contracts of this program's functions. -/
import Derived.Test.YtppicdhlpdhoiaaGreatDoorSSL0
set_option maxHeartbeats 4000000
set_option maxRecDepth 100000
set_option linter.unusedVariables false
set_option linter.unusedSimpArgs false
namespace Go.Proofs.Tryz
open Go Go.Ot
/-! ### ops -/
structure Opx where
 kind : Int
 key : List UInt8
 item : List UInt8
 n : Int
instance : Inhabited Opx := ⟨⟨0, [], [], 0⟩⟩
def opP (o : Opx) : Prop := 1 ≤ o.kind ∧ o.kind ≤ 5 ∧ o.key.length ≤ 40 ∧ o.item.length ≤ 200 ∧ -1099511627776 ≤ o.n ∧ o.n ≤ 1099511627776
/-- Does a fact go by an op of a device? -/
def goB (f : Ft) (dev : Int) (o : Opx) : Bool :=
 f.key == o.key && (if o.kind = 1 then decide (f.kind = 1) else if o.kind = 2 ∨ o.kind = 3 then decide (f.kind = 2) && f.item == o.item else if o.kind = 4 then decide (f.kind = 3) && decide (f.dev = dev) else true)
def goL (s : Sa) (dev : Int) (o : Opx) (i : Nat) : List Ft := (s.fs.take i).filter fun f => goB f dev o
theorem goL_yes {s : Sa} {dev : Int} {o : Opx} {i : Nat} (h : i < s.fs.length) (hg : goB (s.fs.getD i default) dev o = true) : goL s dev o (i + 1) = goL s dev o i ++ [s.fs.getD i default] := by
 rw [goL, List.take_add_one, List.getElem?_eq_getElem h, List.filter_append, goL, getD_eq h] at *
 simp [hg]
theorem goL_not {s : Sa} {dev : Int} {o : Opx} {i : Nat} (h : i < s.fs.length) (hg : goB (s.fs.getD i default) dev o = false) : goL s dev o (i + 1) = goL s dev o i := by
 rw [goL, List.take_add_one, List.getElem?_eq_getElem h, List.filter_append, goL, getD_eq h] at *
 simp [hg]
def dtOf (l : List Ft) : List (Int × Int) := l.map fun f => (f.dev, f.n)
def suOf (n : Int) (l : List Ft) : Int := l.foldl (fun a f => a + f.m) n
theorem suOf_app (n : Int) (l : List Ft) (f : Ft) : suOf n (l ++ [f]) = suOf n l + f.m := by rw [suOf, List.foldl_append]; rfl
theorem dtOf_app (l : List Ft) (f : Ft) : dtOf (l ++ [f]) = dtOf l ++ [(f.dev, f.n)] := by simp [dtOf]
/-- The greatest number of a device's dots. -/
def laS (dev n : Int) (r : Rn) : Int := if r.dev = dev then max n r.to else n
def laF (l : List Rn) (dev : Int) : Int := l.foldl (laS dev) 0
theorem laF_next {l : List Rn} {dev : Int} {i : Nat} (h : i < l.length) : laF (l.take (i + 1)) dev = laS dev (laF (l.take i) dev) (l.getD i default) := by
 rw [List.take_add_one, List.getElem?_eq_getElem h, laF, List.foldl_append, getD_eq h]; rfl
theorem laF_le {dev M : Int} : ∀ {l : List Rn} {n : Int}, n ≤ M → (∀ r ∈ l, r.to ≤ M) → n ≤ l.foldl (laS dev) n ∧ l.foldl (laS dev) n ≤ M
 | [], n, h, _ => ⟨Int.le_refl _, h⟩
 | r :: l, n, h, hl => by
  have h1 := hl r (by simp)
  have h2 : n ≤ laS dev n r ∧ laS dev n r ≤ M := by rw [laS]; split <;> omega
  have := laF_le (dev := dev) (l := l) h2.2 (fun s hs => hl s (by simp [hs]))
  rw [List.foldl_cons]
  exact ⟨by omega, this.2⟩
def newF (s : Sa) (dev : Int) (o : Opx) (l : List Ft) : Ft := if o.kind = 4 then ⟨dev, laF s.seen dev + 1, o.key, 3, [], suOf o.n l⟩ else ⟨dev, laF s.seen dev + 1, o.key, o.kind, o.item, 0⟩
def endF (s : Sa) (d : Sa) : Sa × Int := if 400 < (joF s d).fs.length then (⟨[], []⟩, 4) else (d, 0)
def doF (s : Sa) (dev : Int) (o : Opx) : Sa × Int :=
 let l := goL s dev o s.fs.length
 if o.kind = 3 ∨ o.kind = 5 then (if l = [] then (⟨[], []⟩, 2) else endF s ⟨ofF (dtOf l), []⟩)
 else (if (newF s dev o l).n > 4503599627370496 ∨ (newF s dev o l).m < -1099511627776 ∨ (newF s dev o l).m > 1099511627776 then (⟨[], []⟩, 4)
  else endF s ⟨ofF (dtOf l ++ [(dev, (newF s dev o l).n)]), [newF s dev o l]⟩)
theorem goL_in {s : Sa} {dev : Int} {o : Opx} {i : Nat} {f : Ft} (h : f ∈ goL s dev o i) : f ∈ s.fs := List.mem_of_mem_take (List.mem_filter.1 h).1
theorem inv_do {M : Nat} {s : Sa} (hs : inv M s) {dev : Int} (h0 : 0 ≤ dev) (h4 : dev < 4) {o : Opx} (ho : opP o) (he : (doF s dev o).2 = 0) : inv ((M + 1 : Nat) : Int) (doF s dev o).1 := by
 have hdt : ∀ i, ∀ d ∈ dtOf (goL s dev o i), d.1 < 4 ∧ d.2 ≤ ((M + 1 : Nat) : Int) := fun i d hd => by
  obtain ⟨f, hf, rfl⟩ := List.mem_map.1 hd
  have := has_in hs.1 hs.2 (hs.3 f (goL_in hf)).2
  exact ⟨this.2.1, by show f.n ≤ _; omega⟩
 rw [doF] at he ⊢
 have hend : ∀ d, inv ((M + 1 : Nat) : Int) d → (endF s d).2 = 0 → inv ((M + 1 : Nat) : Int) (endF s d).1 := fun d hd he => by
  rw [endF] at he ⊢
  split
  ·rename_i h; rw [if_pos h] at he; cases he
  ·exact hd
 have hin0 : inM ((M + 1 : Nat) : Int) [] := fun r h => by cases h
 split
 ·rename_i hk
  rw [if_pos hk] at he
  split
  ·rename_i h; rw [if_pos h] at he; cases he
  ·rename_i h
   rw [if_neg h] at he
   exact hend _ ⟨ofF_ok _ mrP_nil, ofF_in _ mrP_nil hin0 (hdt _), fun f hf => (by cases hf), List.Pairwise.nil⟩ he
 ·rename_i hk
  rw [if_neg hk] at he
  split
  ·rename_i h; rw [if_pos h] at he; cases he
  ·rename_i h
   rw [if_neg h] at he
   obtain ⟨o1, o2, o3, o4, o5, o6⟩ := ho
   have hla := laF_le (dev := dev) (l := s.seen) (n := 0) (M := (M : Int)) (by omega) (fun r hr => (hs.2 r hr).2)
   have hd : (newF s dev o (goL s dev o s.fs.length)).dev = dev := by rw [newF]; split <;> rfl
   have hn : (newF s dev o (goL s dev o s.fs.length)).n = laF s.seen dev + 1 := by rw [newF]; split <;> rfl
   have hp : ftP (newF s dev o (goL s dev o s.fs.length)) := by
    by_cases h4' : o.kind = 4
    ·simp only [newF, if_pos h4'] at h ⊢
     exact ⟨o3, .inr ⟨rfl, rfl, (show -1099511627776 ≤ suOf o.n (goL s dev o s.fs.length) from by omega), (show suOf o.n (goL s dev o s.fs.length) ≤ 1099511627776 from by omega)⟩⟩
    ·simp only [newF, if_neg h4'] at h ⊢
     exact ⟨o3, .inl ⟨by show o.kind = 1 ∨ o.kind = 2; omega, o4, rfl⟩⟩
   generalize newF s dev o (goL s dev o s.fs.length) = f at *
   have hla2 : laF s.seen dev = s.seen.foldl (laS dev) 0 := rfl
   have hr : rnP (dtR (dev, f.n)) := ⟨h0, by show dev < 8; omega, by show 1 ≤ f.n; omega, Int.le_refl _, by show f.n ≤ 4503599627370496; omega⟩
   refine hend _ ⟨ofF_ok _ mrP_nil, ofF_in _ mrP_nil hin0 (fun d hd' => ?_), fun g hg => ?_, List.pairwise_singleton _ _⟩ he
   ·rcases List.mem_append.1 hd' with h1 | h1
    ·exact hdt _ d h1
    ·obtain rfl := List.mem_singleton.1 h1
     exact ⟨h4, by show f.n ≤ _; omega⟩
   ·obtain rfl := List.mem_singleton.1 hg
    refine ⟨hp, ?_⟩
    have := ofF_has hr (dtOf (goL s dev o s.fs.length) ++ [(dev, g.n)]) mrP_nil (by simp)
    rw [hd]; exact this
/-! ### states by numbers -/
def opN (a b : UInt8) : Opx := ⟨1 + (a.toNat % 5 : Nat), [UInt8.ofInt 107 + UInt8.ofInt ((a.toNat : Int) / 5 % 3)], [UInt8.ofInt 97 + UInt8.ofInt ((b.toNat : Int) % 5)], b.toNat - 100⟩
theorem opN_ok (a b : UInt8) : opP (opN a b) := by
 have := UInt8.toNat_lt b
 refine ⟨?_, ?_, ?_, ?_, ?_, ?_⟩ <;> simp [opN] <;> omega
def joS (s : Sa) (x : Sa × Int) : Sa := if x.2 = 0 then joF s x.1 else s
def mkN (ns : List UInt8) : Nat → Sa
 | 0 => ⟨[], []⟩
 | k + 1 => joS (mkN ns k) (doF (mkN ns k) ((ns.getD (2 * k) 0).toNat / 16 % 4 : Nat) (opN (ns.getD (2 * k) 0) (ns.getD (2 * k + 1) 0)))
def makF (ns : List UInt8) : Sa := mkN ns (min 40 (ns.length / 2))
theorem inv_joS {M : Nat} {s : Sa} (hs : inv M s) {dev : Int} (h0 : 0 ≤ dev) (h4 : dev < 4) {o : Opx} (ho : opP o) : inv ((M + 1 : Nat) : Int) (joS s (doF s dev o)) := by
 rw [joS]; split
 ·rename_i h; exact inv_join (inv_mono (by omega) hs) (inv_do hs h0 h4 ho h)
 ·exact inv_mono (by omega) hs
theorem inv_mkN (ns : List UInt8) : ∀ k : Nat, inv (k : Int) (mkN ns k)
 | 0 => inv_nil _
 | k + 1 => inv_joS (inv_mkN ns k) (by omega) (by omega) (opN_ok _ _)
theorem inv_makF (ns : List UInt8) : inv ((40 : Nat) : Int) (makF ns) := inv_mono (by omega) (inv_mkN ns (min 40 (ns.length / 2)))
end Go.Proofs.Tryz

namespace Go.Proofs.Tryz
open Go Go.Ot
/-! ### states as wires -/
def rW (r : Rn) : Wr := .mk 3 0 [] [.mk 1 r.dev [] [], .mk 1 r.fr [] [], .mk 1 r.to [] []]
def fW (f : Ft) : Wr := .mk 3 0 [] [.mk 1 f.dev [] [], .mk 1 f.n [] [], .mk 2 0 f.key [], .mk 1 f.kind [] [], .mk 2 0 f.item [], .mk 1 f.m [] []]
def stW (s : Sa) : Wr := .mk 3 0 [] [.mk 3 0 [] (s.seen.map rW), .mk 3 0 [] (s.fs.map fW)]
theorem map_next {α β : Type} [Inhabited α] {f : α → β} {l : List α} {i : Nat} (h : i < l.length) : (l.take (i + 1)).map f = (l.take i).map f ++ [f (l.getD i default)] := by
 rw [List.take_add_one, List.getElem?_eq_getElem h, List.map_append, getD_eq h]; rfl
theorem szL_rW : ∀ l : List Rn, Wr.szL (l.map rW) = 4 * l.length
 | [] => rfl
 | a :: l => by have := szL_rW l; simp only [List.map_cons, rW, Wr.szL, Wr.sz, List.length_cons] at this ⊢; omega
theorem szL_fW : ∀ l : List Ft, Wr.szL (l.map fW) = 7 * l.length
 | [] => rfl
 | a :: l => by have := szL_fW l; simp only [List.map_cons, fW, Wr.szL, Wr.sz, List.length_cons] at this ⊢; omega
def fsz (l : List Ft) : Nat := (l.map fun f => 51 + f.key.length + f.item.length).sum
theorem rW_put (d : Nat) : ∀ l : List Rn, ((l.map rW).flatMap (putW (d + 1))).length = 32 * l.length
 | [] => rfl
 | a :: l => by
  have ih := rW_put d l
  have h1 : (putW (d + 1) (rW a)).length = 32 := by
   rw [rW, listW_put]; simp only [List.flatMap_cons, List.flatMap_nil, List.length_append, List.length_nil, numW_put]
  simp only [List.map_cons, List.flatMap_cons, List.length_append, List.length_cons, ih, h1]; omega
theorem fW_put (d : Nat) : ∀ l : List Ft, ((l.map fW).flatMap (putW (d + 1))).length = fsz l
 | [] => rfl
 | a :: l => by
  have ih := fW_put d l
  have h1 : (putW (d + 1) (fW a)).length = 51 + a.key.length + a.item.length := by
   rw [fW, listW_put]; simp only [List.flatMap_cons, List.flatMap_nil, List.length_append, List.length_nil, numW_put, txtW_put]; omega
  simp only [List.map_cons, List.flatMap_cons, List.length_append, ih, h1, fsz, List.sum_cons]
theorem stW_put (s : Sa) : (putW 6 (stW s)).length = 15 + 32 * s.seen.length + fsz s.fs := by
 rw [stW, listW_put]; simp only [List.flatMap_cons, List.flatMap_nil, List.length_append, List.length_nil, listW_put, rW_put, fW_put]; omega
theorem fsz_le : ∀ {l : List Ft}, (∀ f ∈ l, ftP f) → fsz l ≤ 291 * l.length
 | [], _ => Nat.le_refl _
 | a :: l, h => by
  have ih := fsz_le (l := l) (fun f hf => h f (by simp [hf]))
  have ha := h a (by simp)
  have h1 : a.key.length ≤ 40 ∧ a.item.length ≤ 200 := by
   refine ⟨ha.1, ?_⟩
   rcases ha.2 with h2 | h2
   ·exact h2.2.1
   ·simp [h2.2.1]
  simp only [fsz, List.map_cons, List.sum_cons, List.length_cons] at ih ⊢
  omega
theorem ft_txt {f : Ft} (h : ftP f) : f.key.length ≤ 1048576 ∧ f.item.length ≤ 1048576 := by
 refine ⟨by have := h.1; omega, ?_⟩
 rcases h.2 with h2 | h2
 ·have := h2.2.1; omega
 ·simp [h2.2.1]
theorem st_may {s : Sa} (h : saQ s) (hl : s.seen.length ≤ 65536) : mayW 6 (stW s) = true := by
 rw [stW, listW_may]
 have h1 : (s.seen.map rW).all (mayW 4) = true := by
  rw [List.all_eq_true]
  intro x hx
  obtain ⟨r, _, rfl⟩ := List.mem_map.1 hx
  rw [rW, listW_may]; simp [numW_may]
 have h2 : (s.fs.map fW).all (mayW 4) = true := by
  rw [List.all_eq_true]
  intro x hx
  obtain ⟨f, hf, rfl⟩ := List.mem_map.1 hx
  have := ft_txt (h.fts f hf).1
  rw [fW, listW_may]; simp [numW_may, txtW_may, this]
 have := h.few
 simp [listW_may, h1, h2, hl]
 omega
theorem st_rng {s : Sa} (h : saQ s) : rangeW 6 (stW s) := by
 rw [stW, rangeW_mk]
 refine ⟨by omega, fun x hx => ?_⟩
 simp only [List.mem_cons, List.not_mem_nil, or_false] at hx
 rcases hx with rfl | rfl
 ·refine ⟨by omega, fun y hy => ?_⟩
  obtain ⟨r, hr, rfl⟩ := List.mem_map.1 hy
  obtain ⟨p1, p2, p3, p4, p5⟩ := h.runs.1 r hr
  refine ⟨by omega, fun z hz => ?_⟩
  simp only [List.mem_cons, List.not_mem_nil, or_false] at hz
  rcases hz with rfl | rfl | rfl <;> exact ⟨⟨by omega, by omega⟩, fun x hx => by cases hx⟩
 ·refine ⟨by omega, fun y hy => ?_⟩
  obtain ⟨f, hf, rfl⟩ := List.mem_map.1 hy
  have h1 := h.fts f hf
  obtain ⟨r, hr, e1, e2, e3⟩ := hasB_iff.1 h1.2
  obtain ⟨p1, p2, p3, p4, p5⟩ := h.runs.1 r hr
  have h3 := h1.1.2
  refine ⟨by omega, fun z hz => ?_⟩
  simp only [List.mem_cons, List.not_mem_nil, or_false] at hz
  rcases hz with rfl | rfl | rfl | rfl | rfl | rfl <;> exact ⟨⟨by omega, by omega⟩, fun x hx => by cases hx⟩
/-- A state's bytes. -/
def stF (s : Sa) : List UInt8 := if saB s = true then PutW (stW s) else []
theorem stF_t {s : Sa} (h : saB s = true) : stF s = PutW (stW s) := if_pos h
theorem stF_f {s : Sa} (h : saB s = false) : stF s = [] := by rw [stF, h]; rfl
theorem st_small {s : Sa} (h : saB s = true) (hl : s.seen.length ≤ 100000) : (putW 6 (stW s)).length ≤ 100000000 := by
 have h := saB_q.1 h
 have h1 := fsz_le (fun f hf => (h.fts f hf).1)
 have h2 := h.few
 rw [stW_put]; omega
theorem stF_put {s : Sa} (h : saB s = true) (hl : s.seen.length ≤ 65536) : stF s = putW 6 (stW s) := by rw [stF_t h, PutW_t (st_may (saB_q.1 h) hl)]
theorem stF_len {s : Sa} (h : saB s = true) (hl : s.seen.length ≤ 65536) : (stF s).length = 15 + 32 * s.seen.length + fsz s.fs := by rw [stF_put h hl, stW_put]
theorem st_got {s : Sa} (h : saB s = true) (hl : s.seen.length ≤ 65536) : got (stF s) = some (stW s) := by rw [stF_t h]; exact got_PutW (st_may (saB_q.1 h) hl) (st_rng (saB_q.1 h))
theorem st_ne {s : Sa} (h : saB s = true) (hl : s.seen.length ≤ 65536) : stF s ≠ [] := by rw [stF_t h]; exact PutW_ne (st_may (saB_q.1 h) hl)
theorem st_of_ne {s : Sa} (h : stF s ≠ []) : saB s = true := by
 rcases e : saB s with _ | _
 ·exact absurd (stF_f e) h
 ·rfl
/-! ### what wires say -/
def rnOf (x : Wr) : Rn := ⟨(x.l.getD 0 Wr.z).n, (x.l.getD 1 Wr.z).n, (x.l.getD 2 Wr.z).n⟩
def ftOf (x : Wr) : Ft := ⟨(x.l.getD 0 Wr.z).n, (x.l.getD 1 Wr.z).n, (x.l.getD 2 Wr.z).s, (x.l.getD 3 Wr.z).n, (x.l.getD 4 Wr.z).s, (x.l.getD 5 Wr.z).n⟩
def stOf (W : Wr) : Sa := ⟨(W.l.getD 0 Wr.z).l.map rnOf, (W.l.getD 1 Wr.z).l.map ftOf⟩
theorem rnOf_rW (l : List Rn) : (l.map rW).map rnOf = l := by
 rw [List.map_map]; conv => rhs; rw [← List.map_id l]
 exact List.map_congr_left fun r _ => rfl
theorem ftOf_fW (l : List Ft) : (l.map fW).map ftOf = l := by
 rw [List.map_map]; conv => rhs; rw [← List.map_id l]
 exact List.map_congr_left fun r _ => rfl
theorem stOf_stW (s : Sa) : stOf (stW s) = s := by
 show (⟨(s.seen.map rW).map rnOf, (s.fs.map fW).map ftOf⟩ : Sa) = s
 rw [rnOf_rW, ftOf_fW]
/-- What bytes say of a state. -/
def GS (s : List UInt8) : Option Sa := if s = [] ∨ stF (stOf ((got s).getD Wr.z)) ≠ s then none else some (stOf ((got s).getD Wr.z))
theorem may_l {d : Nat} {w : Wr} (h : mayW (d + 1) w = true) : w.l.length ≤ 65536 ∧ ∀ x ∈ w.l, mayW d x = true := by
 obtain ⟨k, n, s, l⟩ := w
 rw [mayW_s] at h
 rcases (show k = 1 ∨ k = 2 ∨ k = 3 ∨ (k ≠ 1 ∧ k ≠ 2 ∧ k ≠ 3) by omega) with rfl | rfl | rfl | h4
 ·rw [mayS_1] at h
  simp only [Bool.and_eq_true, decide_eq_true_eq, List.length_eq_zero_iff] at h
  obtain ⟨_, rfl⟩ := h
  exact ⟨by simp [Wr.l], fun x hx => by cases hx⟩
 ·rw [mayS_2] at h
  simp only [Bool.and_eq_true, decide_eq_true_eq, List.length_eq_zero_iff] at h
  obtain ⟨⟨_, rfl⟩, _⟩ := h
  exact ⟨by simp [Wr.l], fun x hx => by cases hx⟩
 ·rw [mayS_3] at h
  simp only [Bool.and_eq_true, decide_eq_true_eq, List.all_eq_true] at h
  exact ⟨h.1.2, h.2⟩
 ·rw [mayS_o h4] at h; cases h
theorem stOf_few {s : List UInt8} {W : Wr} (h : got s = some W) : (stOf W).seen.length ≤ 65536 ∧ (stOf W).fs.length ≤ 65536 := by
 have h1 := may_l (got_get h).1
 have key : ∀ i, (W.l.getD i Wr.z).l.length ≤ 65536 := fun i => by
  rcases Nat.lt_or_ge i W.l.length with h2 | h2
  ·have h3 : W.l.getD i Wr.z ∈ W.l := by simp [List.getD_eq_getElem?_getD, List.getElem?_eq_getElem h2]
   exact (may_l (h1.2 _ h3)).1
  ·rw [List.getD_eq_getElem?_getD, List.getElem?_eq_none h2]; exact Nat.zero_le _
 exact ⟨by simpa [stOf] using key 0, by simpa [stOf] using key 1⟩
theorem GS_some {s : List UInt8} {x : Sa} (h : GS s = some x) : s ≠ [] ∧ stF x = s ∧ saB x = true ∧ got s = some (stW x) := by
 rw [GS] at h
 split at h
 ·cases h
 ·rename_i hn
  simp only [not_or, ne_eq, Decidable.not_not] at hn
  cases h
  have hp : saB (stOf ((got s).getD Wr.z)) = true := st_of_ne (by rw [hn.2]; exact hn.1)
  have hl : (stOf ((got s).getD Wr.z)).seen.length ≤ 65536 := by
   rcases e : got s with _ | W
   ·simp [stOf, Wr.z, Wr.l]
   ·exact (stOf_few e).1
  refine ⟨hn.1, hn.2, hp, ?_⟩
  have := st_got hp hl
  rwa [hn.2] at this
theorem GS_st {x : Sa} (h : saB x = true) (hl : x.seen.length ≤ 65536) : GS (stF x) = some x := by
 rw [GS, st_got h hl, Option.getD_some, stOf_stW, if_neg (by simp [st_ne h hl])]
theorem GS_no {s : List UInt8} (h : got s = none) : GS s = none := by
 cases e : GS s with
 | none => rfl
 | some q => have := (GS_some e).2.2.2; rw [h] at this; cases this
theorem GS_no2 {s : List UInt8} {W : Wr} (h : got s = some W) (h6 : W.l.length ≠ 2) : GS s = none := by
 cases e : GS s with
 | none => rfl
 | some q => have := (GS_some e).2.2.2; rw [h] at this; cases this; exact absurd rfl h6
theorem GS_no3 {s : List UInt8} {W a b : Wr} (h : got s = some W) (hl : W.l = [a, b]) {i : Nat} (hi : i < a.l.length) (h2 : (a.l.getD i default).l.length ≠ 3) : GS s = none := by
 cases e : GS s with
 | none => rfl
 | some q =>
  have := (GS_some e).2.2.2
  rw [h] at this
  cases this
  have hl : [Wr.mk 3 0 [] (q.seen.map rW), .mk 3 0 [] (q.fs.map fW)] = [a, b] := hl
  simp only [List.cons.injEq, and_true] at hl
  obtain ⟨rfl, _⟩ := hl
  have hi : i < (q.seen.map rW).length := hi
  have h2 : ((q.seen.map rW).getD i default).l.length ≠ 3 := h2
  rw [getD_eq hi, List.getElem_map] at h2
  exact absurd rfl h2
theorem GS_no6 {s : List UInt8} {W a b : Wr} (h : got s = some W) (hl : W.l = [a, b]) {i : Nat} (hi : i < b.l.length) (h2 : (b.l.getD i default).l.length ≠ 6) : GS s = none := by
 cases e : GS s with
 | none => rfl
 | some q =>
  have := (GS_some e).2.2.2
  rw [h] at this
  cases this
  have hl : [Wr.mk 3 0 [] (q.seen.map rW), .mk 3 0 [] (q.fs.map fW)] = [a, b] := hl
  simp only [List.cons.injEq, and_true] at hl
  obtain ⟨_, rfl⟩ := hl
  have hi : i < (q.fs.map fW).length := hi
  have h2 : ((q.fs.map fW).getD i default).l.length ≠ 6 := h2
  rw [getD_eq hi, List.getElem_map] at h2
  exact absurd rfl h2
theorem got_sne {s : List UInt8} {W : Wr} (h : got s = some W) : s ≠ [] := fun e => by rw [e, got_nil] at h; cases h
theorem GS_y {s : List UInt8} {W : Wr} (h : got s = some W) (h2 : stF (stOf W) = s) : GS s = some (stOf W) := by rw [GS, h, Option.getD_some, if_neg (by simp [h2, got_sne h])]
theorem GS_n {s : List UInt8} {W : Wr} (h : got s = some W) (h2 : stF (stOf W) ≠ s) : GS s = none := by rw [GS, h, Option.getD_some, if_pos (.inr h2)]
/-! ### two states have one text just if they are one -/
end Go.Proofs.Tryz
