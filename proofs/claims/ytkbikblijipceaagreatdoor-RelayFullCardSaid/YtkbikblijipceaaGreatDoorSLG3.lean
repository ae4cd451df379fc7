/- Contracts of this program's functions. -/
import Derived.Test.YtkbikblijipceaaGreatDoorSMF2
import Derived.Test.YtkbikblijipceaaGreatDoorSCK
import Derived.Test.YtkbikblijipceaaGreatDoorSCS0
import Derived.Test.YtkbikblijipceaaGreatDoorSPR1
set_option maxHeartbeats 4000000
set_option maxRecDepth 100000
set_option linter.unusedVariables false
set_option linter.unusedSimpArgs false
namespace Go.Proofs.Tryz
open Go Go.Ot
theorem VwL_app {src : Nm → Option Nm} {hp : Nm → Option Ob} {len : Nm → Prop} {xs ys : List D} : ∀ ts : List T, VwL src hp len (ts.map .t ++ xs) (ts.map .t ++ ys) ↔ VwL src hp len xs ys
 | [] => Iff.rfl
 | a :: ts => by
  have ih := VwL_app (src := src) (hp := hp) (len := len) (xs := xs) (ys := ys) ts
  constructor
  ·rintro ⟨d, ds, h, h1, h2⟩
   obtain ⟨rfl, rfl⟩ := List.cons.inj h
   exact ih.1 h2
  ·intro h
   exact ⟨_, _, rfl, xA hp len a, ih.2 h⟩
def uV (l : List Rc) : Ob := ⟨(l.flatMap rcT).map .t, 39, true, true⟩
@[push_cast] theorem rowRc_eq (l : List Rc) : uV l = ⟨(l.flatMap rcT).map .t, 39, true, true⟩ := rfl
@[push_cast] theorem rcs_at {l : List Rc} {i : Nat} (h : i < l.length) : List.take 6 (List.drop (i * 6) ((l.flatMap rcT).map D.t)) = [.t (num (l.getD i default).seq), .t (txt (l.getD i default).prev), .t (num (l.getD i default).kind), .t (num (l.getD i default).dev), .t (.sl (l.getD i default).wraps.length ((l.getD i default).wraps.flatMap wpT)), .t (txt (l.getD i default).tag)] := by
 rw [← List.map_drop, ← List.map_take, jP yAI h]
 rfl
@[push_cast] theorem rcs_g0 {l : List Rc} {i : Nat} (h : i < l.length) : ((l.flatMap rcT).map D.t).getD (i * 6) .bad = .t (num (l.getD i default).seq) := by
 rw [List.getD_eq_getElem?_getD, List.getElem?_map, ← Nat.add_zero (i * 6), ← List.getElem?_drop, yAH h]; rfl
@[push_cast] theorem rcs_g2 {l : List Rc} {i : Nat} (h : i < l.length) : ((l.flatMap rcT).map D.t).getD (i * 6 + 2) .bad = .t (num (l.getD i default).kind) := by
 rw [List.getD_eq_getElem?_getD, List.getElem?_map, ← List.getElem?_drop, yAH h]; rfl
@[push_cast] theorem rcs_g3 {l : List Rc} {i : Nat} (h : i < l.length) : ((l.flatMap rcT).map D.t).getD (i * 6 + 3) .bad = .t (num (l.getD i default).dev) := by
 rw [List.getD_eq_getElem?_getD, List.getElem?_map, ← List.getElem?_drop, yAH h]; rfl
theorem qM {l : List Rc} {n : Nat} (h : l.length = n) : List.take (n * 6) ((l.flatMap rcT).map D.t) = (l.flatMap rcT).map D.t := List.take_of_length_le (by rw [List.length_map, uB, h]; exact Nat.le_refl _)
def chP (l : List (List UInt8)) (i : Nat) : List Rc := (l.take i).map fun s => (RG s).getD default
theorem chP_0 (l : List (List UInt8)) : chP l 0 = [] := rfl
theorem yEY {l : List (List UInt8)} {i : Nat} (h : i ≤ l.length) : (chP l i).length = i := by rw [chP, List.length_map, List.length_take, Nat.min_eq_left h]
theorem chP_s {l : List (List UInt8)} {i : Nat} {r : Rc} (h : i < l.length) (hr : RG (l.getD i []) = some r) : chP l (i + 1) = chP l i ++ [r] := by
 have e : l.getD i [] = l[i] := by simp [List.getD_eq_getElem?_getD, List.getElem?_eq_getElem h]
 rw [e] at hr
 rw [chP, List.take_add_one, List.getElem?_eq_getElem h, List.map_append, Option.toList_some, List.map_cons, List.map_nil, hr]; rfl
def chS (l : List (List UInt8)) : Option (List Rc) := if l.all (fun s => (RG s).isSome) then some (chP l l.length) else none
theorem chS_no {l : List (List UInt8)} {i : Nat} (hi : i < l.length) (h : RG (l.getD i []) = none) : chS l = none := by
 refine if_neg (fun ha => ?_)
 rw [List.all_eq_true] at ha
 have e : l.getD i [] = l[i] := by simp [List.getD_eq_getElem?_getD, List.getElem?_eq_getElem hi]
 have := ha _ (List.getElem_mem hi)
 rw [← e, h] at this; cases this
theorem yEX {l : List (List UInt8)} (h : ∀ j, j < l.length → (RG (l.getD j [])).isSome = true) : chS l = some (chP l l.length) := by
 refine if_pos ?_
 rw [List.all_eq_true]
 intro s hs
 obtain ⟨j, hj, rfl⟩ := List.mem_iff_getElem.1 hs
 have := h j hj
 rwa [show l.getD j [] = l[j] by simp [List.getD_eq_getElem?_getD, List.getElem?_eq_getElem hj]] at this
theorem RG_w {s : List UInt8} : ((RG s).getD default).wraps.length ≤ 8 := by
 rcases h : RG s with _ | r
 ·exact Nat.zero_le _
 ·exact (sQ (cK h).2.2.1.2.2.2.2.2.2).1
theorem w8_w {l : List Rc} (h : ∀ r ∈ l, r.wraps.length ≤ 8) (j : Nat) : (l.getD j default).wraps.length ≤ 9223372036854775807 := by
 by_cases hj : j < l.length
 ·have e : l.getD j default = l[j] := by simp [List.getD_eq_getElem?_getD, List.getElem?_eq_getElem hj]
  rw [e]; have := h _ (List.getElem_mem hj); omega
 ·rw [List.getD_eq_getElem?_getD, List.getElem?_eq_none (by omega)]; decide
theorem chP_w (l : List (List UInt8)) (i j : Nat) : ((chP l i).getD j default).wraps.length ≤ 9223372036854775807 := by
 refine w8_w (fun r hr => ?_) j
 rw [chP] at hr
 obtain ⟨s, _, rfl⟩ := List.mem_map.1 hr
 exact RG_w
theorem yHC {cs : List Rc} (h : ∀ c ∈ cs, rcP c) : chS (cs.map rcF) = some cs := by
 have e : ∀ j, j < (cs.map rcF).length → RG ((cs.map rcF).getD j []) = some (cs.getD j default) := by
  intro j hj
  have hj' : j < cs.length := by rwa [List.length_map] at hj
  have e1 : (cs.map rcF).getD j [] = rcF cs[j] := by simp [List.getD_eq_getElem?_getD, List.getElem?_eq_getElem hj']
  have e2 : cs.getD j default = cs[j] := by simp [List.getD_eq_getElem?_getD, List.getElem?_eq_getElem hj']
  rw [e1, e2]; exact yHa (h _ (List.getElem_mem hj'))
 rw [yEX (fun j hj => by rw [e j hj]; rfl)]
 congr 1
 rw [chP, List.take_length, List.map_map]
 conv => rhs; rw [← List.map_id cs]
 refine List.map_congr_left (fun c hc => ?_)
 show (RG (rcF c)).getD default = c
 rw [yHa (h c hc)]; rfl
def chR (o : Option (List Rc)) : D := match o with
 | none => .tup [.t (.sl 0 []), .t (bol false)]
 | some rs => .tup [.t (.sl rs.length (rs.flatMap rcT)), .t (bol (ckB rs))]
theorem chR_none : chR none = .tup [.t (.sl 0 []), .t (bol false)] := rfl
theorem nE (rs : List Rc) : chR (some rs) = .tup [.t (.sl rs.length (rs.flatMap rcT)), .t (bol (ckB rs))] := rfl
end Go.Proofs.Tryz

namespace Go.Proofs.Tryz
open Go Go.Ot
theorem dQ {l : List Rc} {r : Rc} {j : Nat} (h : j < l.length) : (l ++ [r]).getD j default = l.getD j default := by rw [List.getD_eq_getElem?_getD, List.getD_eq_getElem?_getD, List.getElem?_append_left h]
theorem qT {l : List Rc} {r : Rc} : (l ++ [r]).getD l.length default = r := by simp [List.getD_eq_getElem?_getD]
theorem mT {l : List Rc} {r : Rc} : ∀ j, j ≤ l.length → inF (l ++ [r]) j = inF l j
 | 0, _ => rfl
 | j + 1, h => by rw [inF, inF, dQ (show j < l.length from h), mT j (by omega)]
theorem aS {l : List Rc} {r : Rc} : ∀ j, j ≤ l.length → vG (l ++ [r]) j = vG l j
 | 0, _ => rfl
 | j + 1, h => by rw [vG, vG, dQ (show j < l.length from h)]
theorem yD9 {l : List Rc} {r : Rc} {j : Nat} (h : j < l.length) : chC (l ++ [r]) (inF (l ++ [r]) j) j = chC l (inF l j) j := by
 rw [mT j (by omega), chC, chC, dQ h, aS j (by omega)]
theorem yGT {l : List Rc} {r : Rc} (h : ckB l = true) (hl : l.length < 40) (hr : chC (l ++ [r]) (inF l l.length) l.length = 0) : ckB (l ++ [r]) = true := by
 refine yAX (by rw [List.length_append]; exact hl) (fun i hi => ?_)
 by_cases hj : i < l.length
 ·rw [yD9 hj]; exact (uJ h).2 i hj
 ·have e : i = l.length := by rw [List.length_append] at hi; simp only [List.length_cons, List.length_nil] at hi; omega
  rw [e, mT _ (Nat.le_refl _)]; exact hr
theorem yGS {l : List Rc} (h : ckB l = true) {n : Nat} (hn : n ≤ l.length) : ckB (l.take n) = true := by
 have key : ∀ (m : List Rc) (r : Rc), ckB (m ++ [r]) = true → ckB m = true := fun m r hm => by
  refine yAX (by have := (uJ hm).1; rw [List.length_append] at this; omega) (fun i hi => ?_)
  have := (uJ hm).2 i (by rw [List.length_append]; omega)
  rwa [yD9 hi] at this
 have k2 : ∀ k, k ≤ l.length → ckB (l.take (l.length - k)) = true := by
  intro k
  induction k with
  | zero => intro _; rw [Nat.sub_zero, List.take_length]; exact h
  | succ k ih =>
   intro hk
   have e := ih (by omega)
   have e2 : l.length - k = (l.length - (k + 1)) + 1 := by omega
   rw [e2, List.take_add_one, List.getElem?_eq_getElem (by omega)] at e
   exact key _ _ e
 have := k2 (l.length - n) (by omega)
 rwa [show l.length - (l.length - n) = n from by omega] at this
theorem kC {l : List Rc} (h : ckB l = true) {i : Nat} (hi : i < l.length) : rcP (l.getD i default) ∧ (l.getD i default).seq = i + 1 := ⟨(kD ((uJ h).2 i hi)).1, (kD ((uJ h).2 i hi)).2.1.1⟩
theorem lO {l : List Rc} (h : ckB l = true) {c : Rc} (hc : c ∈ l) : rcP c := by
 obtain ⟨j, hj, rfl⟩ := List.mem_iff_getElem.1 hc
 have := (kC h hj).1
 rwa [show l.getD j default = l[j] by simp [List.getD_eq_getElem?_getD, List.getElem?_eq_getElem hj]] at this
theorem yF6 {l : List Wp} {x : Wp} (h : mwB l = true) (h1 : ∀ i, i < l.length → (l.getD i default).dev < x.dev) (h2 : 0 ≤ x.dev ∧ x.dev < 8) (h3 : x.box.length ≤ 200) : mwB (l ++ [x]) = true := by
 have at1 : ∀ j, j < l.length → (l ++ [x]).getD j default = l.getD j default := fun j hj => by rw [List.getD_eq_getElem?_getD, List.getD_eq_getElem?_getD, List.getElem?_append_left hj]
 have at2 : (l ++ [x]).getD l.length default = x := by simp [List.getD_eq_getElem?_getD]
 refine yDT (fun i hi => ?_)
 by_cases hj : i < l.length
 ·have := wpOk_iff.1 (qO h hj)
  refine wpOk_iff.2 ?_
  rw [at1 i hj]
  refine ⟨this.1, this.2.1, this.2.2.1, fun h0 => ?_⟩
  rw [at1 (i - 1) (by omega)]; exact this.2.2.2 h0
 ·have e : i = l.length := by rw [List.length_append] at hi; simp only [List.length_cons, List.length_nil] at hi; omega
  subst e
  refine wpOk_iff.2 ?_
  rw [at2]
  refine ⟨h2.1, h2.2, h3, fun h0 => ?_⟩
  rw [at1 (l.length - 1) (by omega)]; exact h1 _ (by omega)
open Cy in
theorem yDo {k n a b : List UInt8} (h1 : k.length = 64) (h2 : n.length = 12) (h3 : b.length = 32) : (sealB k n a b).length = 48 := by
 rw [sealB, if_pos ⟨h1, h2, by omega⟩, List.length_append, dU, yBh, h3]
section
open Cy
variable (s m : List UInt8) (cs : List Rc) (k d : Int)
def mk0 : Rc := ⟨(cs.length : Int) + 1, vG cs cs.length, k, d, [], []⟩
def yFi (w : List Wp) (i : Nat) : Wp := ⟨i, sealB (wrapB (ownB m i)) (nonceB (cs.length + 1)) (hdF ⟨(cs.length : Int) + 1, vG cs cs.length, k, d, w, []⟩) (epochB s (cs.length + 1))⟩
def mkW : Nat → List Wp
 | 0 => []
 | i + 1 => if inB (cs ++ [mk0 cs k d]) ((cs.length : Int) + 1) i = true then mkW i ++ [yFi s m cs k d (mkW i) i] else mkW i
def mkT (w : List Wp) : List UInt8 := (hmacB (epochB s cs.length) (rcF ⟨(cs.length : Int) + 1, vG cs cs.length, k, d, w, []⟩)).take 16
def mkR : Rc := ⟨(cs.length : Int) + 1, vG cs cs.length, k, d, mkW s m cs k d 8, if 0 < cs.length then mkT s cs k d (mkW s m cs k d 8) else []⟩
theorem mkW_0 : mkW s m cs k d 0 = [] := rfl
variable {s m cs k d}
theorem yF8 {i : Nat} (h : inB (cs ++ [mk0 cs k d]) ((cs.length : Int) + 1) i = true) : mkW s m cs k d (i + 1) = mkW s m cs k d i ++ [yFi s m cs k d (mkW s m cs k d i) i] := if_pos h
theorem yF9 {i : Nat} (h : inB (cs ++ [mk0 cs k d]) ((cs.length : Int) + 1) i = false) : mkW s m cs k d (i + 1) = mkW s m cs k d i := if_neg (by rw [h]; decide)
theorem yF7 (w : List Wp) (i : Nat) : (yFi s m cs k d w i).box.length = 48 := by
 have e : (yFi s m cs k d w i).box = sealB (wrapB (ownB m i)) (nonceB (cs.length + 1)) (hdF ⟨(cs.length : Int) + 1, vG cs cs.length, k, d, w, []⟩) (epochB s (cs.length + 1)) := rfl
 rw [e]
 exact yDo (wrapB_len (ownB m i)) (nonceB_len (cs.length + 1)) (epochB_len s (cs.length + 1))
theorem mkW_ok : ∀ i, i ≤ 8 → mwB (mkW s m cs k d i) = true ∧ ∀ j, j < (mkW s m cs k d i).length → ((mkW s m cs k d i).getD j default).dev < i
 | 0, _ => ⟨by rw [mkW_0]; decide +kernel, fun j hj => absurd hj (Nat.not_lt_zero _)⟩
 | i + 1, hi => by
  obtain ⟨h1, h2⟩ := mkW_ok i (by omega)
  rcases h : inB (cs ++ [mk0 cs k d]) ((cs.length : Int) + 1) i with _ | _
  ·rw [yF9 h]; exact ⟨h1, fun j hj => by have := h2 j hj; omega⟩
  ·rw [yF8 h]
   refine ⟨yF6 h1 (fun j hj => h2 j hj) ⟨by show (0 : Int) ≤ (i : Int); omega, by show (i : Int) < 8; omega⟩ (by rw [yF7]; omega), fun j hj => ?_⟩
   by_cases hj' : j < (mkW s m cs k d i).length
   ·rw [List.getD_eq_getElem?_getD, List.getElem?_append_left hj', ← List.getD_eq_getElem?_getD]; have := h2 j hj'; omega
   ·have e : j = (mkW s m cs k d i).length := by rw [List.length_append] at hj; simp only [List.length_cons, List.length_nil] at hj; omega
    rw [e, List.getD_eq_getElem?_getD, List.getElem?_append_right (Nat.le_refl _), Nat.sub_self]
    show (i : Int) < _; omega
theorem yIK (h : ckB cs = true) : (vG cs cs.length).length = 32 ∨ ((cs.length : Int) + 1 = 1 ∧ vG cs cs.length = []) := by
 rcases cs with _ | ⟨c, cs⟩
 ·exact .inr ⟨rfl, rfl⟩
 ·exact .inl (by show (hsh _).length = 32; exact yIW _)
theorem yCx (h : ckB cs = true) (hk : k = 1 ∨ k = 2) (hd : 0 ≤ d ∧ d < 8) {w : List Wp} (hw : mwB w = true) {t : List UInt8} (ht : t = [] ∨ t.length = 16) : rcP ⟨(cs.length : Int) + 1, vG cs cs.length, k, d, w, t⟩ := by
 have := (uJ h).1
 exact ⟨by show 1 ≤ (cs.length : Int) + 1; omega, by show (cs.length : Int) + 1 ≤ 1048576; omega, yIK h, hk, hd, ht, hw⟩
theorem yIM (w : List Wp) : (mkT s cs k d w).length = 16 := by rw [mkT, List.length_take, hmacB_len]; rfl
theorem mkR_rc (h : ckB cs = true) (hk : k = 1 ∨ k = 2) (hd : 0 ≤ d ∧ d < 8) : rcP (mkR s m cs k d) := yCx h hk hd (mkW_ok 8 (Nat.le_refl _)).1 (by
 split
 ·exact .inr (yIM _)
 ·exact .inl rfl)
theorem yHu (h : ckB cs = true) (hl : cs.length < 40) (hk : k = 1 ∨ k = 2) (hd : 0 ≤ d ∧ d < 8) (h0 : cs.length = 0 → k = 1 ∧ d = 0) (h2 : k = 2 → d ≠ 0) (hin : (inF cs cs.length).contains d = decide (k = 2)) : ckB (cs ++ [mkR s m cs k d]) = true := by
 refine yGT h hl (yCT qT (mkR_rc h hk hd) ⟨rfl, ?_⟩ ?_)
 ·rw [aS _ (Nat.le_refl _)]; rfl
 ·rintro (⟨h1, h3⟩ | ⟨h1, h3⟩ | h1)
  ·have := h0 h1
   rcases h3 with h3 | h3
   ·exact h3 this.1
   ·exact h3 this.2
  ·exact h2 h1 h3
  ·exact h1 hin
end
def lgD (b : UInt8) : Int := 1 + (b.toNat : Int) % 4
def lgK (l : List Rc) (b : UInt8) : Int := if (inF l l.length).contains (lgD b) then 2 else 1
def lgL (s m ns : List UInt8) : Nat → List Rc
 | 0 => [mkR s m [] 1 0]
 | i + 1 => lgL s m ns i ++ [mkR s m (lgL s m ns i) (lgK (lgL s m ns i) (ns.getD i 0)) (lgD (ns.getD i 0))]
theorem lgL_0 (s m ns : List UInt8) : lgL s m ns 0 = [mkR s m [] 1 0] := rfl
theorem yCA (s m ns : List UInt8) (i : Nat) : lgL s m ns (i + 1) = lgL s m ns i ++ [mkR s m (lgL s m ns i) (lgK (lgL s m ns i) (ns.getD i 0)) (lgD (ns.getD i 0))] := rfl
@[push_cast] theorem wY (s m ns : List UInt8) : ∀ i, (lgL s m ns i).length = i + 1
 | 0 => rfl
 | i + 1 => by rw [yCA, List.length_append, wY s m ns i]; rfl
theorem kA (s m ns : List UInt8) : ∀ i, i ≤ 38 → ckB (lgL s m ns i) = true
 | 0, _ => yHu (cs := []) (by decide +kernel) (by decide) (.inl rfl) ⟨by decide, by decide⟩ (fun _ => ⟨rfl, rfl⟩) (fun h => by cases h) (by decide)
 | i + 1, hi => by
  rw [yCA]
  have hl := wY s m ns i
  have hb := (ns.getD i 0).toNat_lt
  refine yHu (kA s m ns i (by omega)) (by omega) ?_ ⟨?_, ?_⟩ (fun h => by omega) (fun _ => ?_) ?_
  ·rw [lgK]; split
   ·exact .inr rfl
   ·exact .inl rfl
  ·rw [lgD]; omega
  ·rw [lgD]; omega
  ·rw [lgD]; omega
  ·rw [lgK]; split
   ·rename_i h; rw [h]; rfl
   ·rename_i h; rw [Bool.not_eq_true] at h; rw [h]; rfl
def lgE (s m ns : List UInt8) : List Rc := lgL s m ns (min ns.length 7)
theorem yIN (s m ns : List UInt8) : (lgE s m ns).length = min ns.length 7 + 1 := wY s m ns _
theorem lgE_ck (s m ns : List UInt8) : ckB (lgE s m ns) = true := kA s m ns _ (by omega)
theorem yHA {l : List Rc} (h : ckB l = true) {d : Int} (hd : 0 ≤ d ∧ d < 8) : inB l l.length d = (inF l l.length).contains d := by
 have := yBO (log := l) (i := l.length) (Nat.le_refl _) (fun j hj => (uJ h).2 j hj) hd
 rwa [List.take_length] at this
theorem yIv {a b : Rc} (ha : rcP a) (hb : rcP b) (h : rcF a = rcF b) : a = b := by
 have e := yHa ha
 rw [h, yHa hb] at e
 exact (Option.some.inj e).symm
end Go.Proofs.Tryz

namespace Go.Proofs.Tryz
open Go Go.Ot
theorem yIY (r : Rc) : (hdF r).length ≤ 2000 := by
 by_cases hp : rcP r
 ·rw [hdF_t hp, pS (hd_may hp)]; exact yBP hp
 ·rw [hdF_f hp]; exact Nat.zero_le _
theorem tH {l : List Wp} {n : Nat} (h : l.length = n) : List.take (n * 2) ((l.flatMap wpT).map D.t) = (l.flatMap wpT).map D.t := List.take_of_length_le (by rw [List.length_map, uA, h]; exact Nat.le_refl _)
theorem yIz (l : List Rc) : vG l 0 = [] := rfl
theorem yDH (l : List Rc) (k : Nat) : vG l (k + 1) = hsh (l.getD k default) := rfl
theorem yDV (cs : List Rc) (k d : Int) : (cs ++ [mk0 cs k d]).length = cs.length + 1 := by rw [List.length_append]; rfl
attribute [local irreducible] wpK wpS uE wH wV wN wZ xD Le rdS lpW rdW got tB mayW uW putW nb u64 qB mwB sha rcF hdF hsh RG inF chC fl lkT ckB inR inB mkW mkR yFi vG Cy.derB Cy.hmacB Cy.sealB Cy.ownB Cy.epochB Cy.wrapB Cy.nonceB
end Go.Proofs.Tryz

namespace Go.Proofs.Tryz
open Go Go.Ot
attribute [local simp] num bol txt w8 w16 w32 w64 lst cls xZ xR List.take_of_length_le
attribute [local irreducible] wpK wpS uE wH wV wN wZ xD Le rdS lpW rdW got tB mayW uW putW nb u64 qB mwB sha rcF hdF hsh RG inF chC fl lkT ckB inR inB mkW mkR yFi vG Cy.derB Cy.hmacB Cy.sealB Cy.ownB Cy.epochB Cy.wrapB Cy.nonceB
theorem eE (Γ : Gl) (s m : List UInt8) (hs : s.length ≤ 1000) (hm : m.length ≤ 1000) (cs : List Rc) (hck : ckB cs = true) (hl : cs.length < 40) (hw : ∀ j, (cs.getD j default).wraps.length ≤ 9223372036854775807) (d : Int) (hd : 0 ≤ d ∧ d < 8) (h0 : cs.length = 0 → d = 0) (hin : inB cs cs.length d = false) : Go.Ot.Good Γ prog 34 [.t (txt s), .t (txt m), .t (.sl cs.length (cs.flatMap rcT)), .t (num 1), .t (num d)] [] (.agg [.t (num (mkR s m cs 1 d).seq), .t (txt (mkR s m cs 1 d).prev), .t (num (mkR s m cs 1 d).kind), .t (num (mkR s m cs 1 d).dev), .msl (.n 0) 0 (mkW s m cs 1 d 8).length 2, .t (txt (mkR s m cs 1 d).tag), .t (num 0)]) [] [uG (mkW s m cs 1 d 8)] := by
 have hkk : (1 : Int) = 1 ∨ (1 : Int) = 2 := by decide
 have hcl := yDV cs 1 d
 have hal := qM hcl
 refine yR F.mix func34 (by rfl) ntmps34 ?_
 refine yD (yA rfl ?_)
 refine yF ?_
 refine yE (yB (yC (yD (yA rfl ?_))))
 iterate 3 refine yF ?_
 refine yE (yB (yC (yD (yA rfl ?_))))
 iterate 3 refine yF ?_
 refine yU [] false ((by have h := uQ Γ cs (cs.length : Int) d (by omega); rw [hin] at h; exact h)) ?_
 refine yF ?_
 refine yE (yB (yC (yD (yH (yD (yA rfl ?_))))))
 rcases Nat.eq_zero_or_pos cs.length with hz | hz
 ·have hd0 : d = 0 := h0 hz
  have hpv : vG cs cs.length = [] := by rw [hz, yIz]
  iterate 3 refine yF ?_
  iterate 2 refine wJ ?_
  iterate 2 refine yF ?_
  iterate 2 refine xB ?_
  iterate 2 refine yF ?_
  iterate 2 refine xB ?_
  iterate 2 refine yF ?_
  refine xB ?_
  refine wT [] false (yEU Γ cs hck) ?_
  refine xB ?_
  iterate 2 refine yF ?_
  iterate 10 refine xB ?_
  iterate 2 refine yF ?_
  iterate 3 refine xB ?_
  iterate 2 refine wJ ?_
  refine xB ?_
  iterate 2 refine yF ?_
  refine yE (yB (yC (yJ (yD (yA rfl ?_)))))
  iterate 3 refine yF ?_
  refine xB ?_
  iterate 2 refine yF ?_
  refine yE (yB (yC (yJ (yD (yA rfl ?_)))))
  iterate 3 refine yF ?_
  iterate 2 refine wJ ?_
  iterate 2 refine yF ?_
  refine yE (yB (yC (yJ (yD (yA rfl ?_)))))
  iterate 3 refine yF ?_
  refine yE (yB (yC (yJ (yL (yS (yC (yD (yA rfl ?_))))))))
  iterate 7 refine yF ?_
  refine yE (yB (yC (yD (yD (yA rfl ?_)))))
  iterate 2 refine yF ?_
  refine yE (yB (yC (yJ (yL (yC (yD (yA rfl ?_)))))))
  iterate 4 refine yF ?_
  refine yE (yB (yC (yD (yA rfl ?_))))
  iterate 5 refine yF ?_
  refine yE (yB (yC (yD (yD (yA rfl ?_)))))
  refine yF ?_
  refine yE (yB (yC (yH ?_)))
  refine xN (fun sl L (i : Nat) => ⟨setAll (setBad sl [2, 3, 4, 12, 16, 17, 18, 19, 20, 21, 22, 23, 24, 25, 26, 27, 28, 29, 30, 31, 32, 33, 34, 35, 36, 37, 38, 39, 40, 41, 42, 43, 44, 45, 46, 47, 48, 49, 50, 51, 52, 53, 54, 55, 56, 57, 58, 59, 60, 61, 62, 63, 64, 65, 66, 67, 68, 69, 70, 71, 72, 73, 74, 75, 76, 77, 78, 79, 80, 81, 82, 83, 84, 85, 86, 87, 88, 89, 90, 91, 92, 93, 94, 95, 96, 97, 98, 99, 100, 101, 102, 103, 104, 105, 106, 107, 108, 109, 110, 111, 112, 113, 114, 115, 116, 117, 118, 119, 120, 121, 122, 123, 124, 125, 126, 127, 128, 129, 130, 131, 132]) [(14, .msl (.n 9) 0 (cs.length + 1) 6), (15, .t (num i))], Go.Ot.look (vD (.n 9) (uV (cs ++ [mk0 cs 1 d])) (vD (.n 8) (uG (mkW s m cs 1 d i)) (vD (.r 11 5 0) (xR 39 [.t (num ((cs.length : Int) + 1)), .t (txt (vG cs cs.length)), .t (num 1), .t (num d), .msl (.n 8) 0 (mkW s m cs 1 d i).length 2, .t (txt [])]) (lN (.r 14 0 0) (lN (.r 15 2 0) L)))))⟩) (fun i => i ≤ 8) (fun i => 8 - i) (0) (wF ?_) ?_ ?_
  ·refine wL [(.n 9, .r 14 0 0), (.r 11 5 0, .r 11 5 0), (.r 0 0 0, .r 0 0 0)] ?_ ?_ ?_ <;> simp [rcT, wpT, uV, uG, uV, uG, mkW_0, mk0, List.flatMap_append, rcT, List.map_append, VwL_app, hpv]
  ·(first | omega | simp)
  ·intro i hi
   refine vE ?_
   refine yD (yD (yA rfl ?_))
   iterate 2 refine yF ?_
   refine yE (yB (yC ?_))
   refine vL (fun hc5 => ?_) (fun hc5 => ?_)
   ·(try simp only [zB] at hc5)
    refine yL (yC (yD (yH (yD (yA rfl ?_)))))
    have hwo := mkW_ok (s := s) (m := m) (cs := cs) (k := 1) (d := d) i (by omega)
    have hwl := (sQ hwo.1).1
    have hwa := tH (l := (mkW s m cs 1 d i)) rfl
    rcases hin2 : inB (cs ++ [mk0 cs 1 d]) ((cs.length : Int) + 1) i with _ | _
    ·have hnx := yF9 (s := s) (m := m) hin2
     iterate 4 refine yF ?_
     refine yU [.n 9] false ((by have h := uQ Γ (cs ++ [mk0 cs 1 d]) ((cs.length : Int) + 1) i (by omega); rw [hin2] at h; exact h)) ?_ (hv := by (simp (maxSteps := 2000000) (disch := first | omega | (simp only [zL] <;> omega) | fail) [-List.map_map, -List.map_drop, -List.map_take, VwL_cons, xM, xY, vN, xV, xW, xU, Vw_agg, xS, xX, xA, VwL_refl_map, yX, xK, xL, wK, xJ, yW, xC, yV, VwTs_app, List.take_of_length_le, srcL, notIn, ObsVw, SrcOk, pOk, Go.Ot.look, resP, resN, ev, evc, mkS, push_cast, List.take_of_length_le, hcl, hal, uB, -List.length_flatMap, -List.flatMap_append, -List.length_append, -List.map_append] <;> (try omega)))
     refine yE (yB (yC (yJ (yL (yS (yC (yA rfl ?_)))))))
     iterate 3 refine yF ?_
     refine yE (yB ?_)
     refine xE (i + 1) (wF ?_) ?_ ?_
     ·refine wL [(.n 9, .n 9), (.r 11 5 0, .r 11 5 0), (.r 0 0 0, .r 0 0 0), (.n 8, .n 8)] ?_ ?_ ?_ <;> simp [rcT, wpT, uV, uG, uG, hnx]
     ·(first | omega | (simp_all <;> omega))
     ·(first | omega | (simp only []; omega))
    ·have hnx := yF8 (s := s) (m := m) hin2
     iterate 4 refine yF ?_
     refine yU [.n 9] false ((by have h := uQ Γ (cs ++ [mk0 cs 1 d]) ((cs.length : Int) + 1) i (by omega); rw [hin2] at h; exact h)) ?_ (hv := by (simp (maxSteps := 2000000) (disch := first | omega | (simp only [zL] <;> omega) | fail) [-List.map_map, -List.map_drop, -List.map_take, VwL_cons, xM, xY, vN, xV, xW, xU, Vw_agg, xS, xX, xA, VwL_refl_map, yX, xK, xL, wK, xJ, yW, xC, yV, VwTs_app, List.take_of_length_le, srcL, notIn, ObsVw, SrcOk, pOk, Go.Ot.look, resP, resN, ev, evc, mkS, push_cast, List.take_of_length_le, hcl, hal, uB, -List.length_flatMap, -List.flatMap_append, -List.length_append, -List.map_append] <;> (try omega)))
     refine yE (yB (yC (xF ?_)))
     refine tD (.n 8) [113, 122, 131] [.r 11 5 0] rfl ?_
     iterate 5 refine nK ?_
     refine vB [] [] [] false (Cy.refOwn_good Γ m hm i (by omega)) ?_
     refine vB [] [] [] false (Cy.refWrap_good Γ (Cy.ownB m i) (by rw [Cy.ownB_len]; omega)) ?_
     iterate 2 refine nK ?_
     refine vB [] [] [] false (Cy.refnonce_good Γ (cs.length + 1)) ?_
     refine nK ?_
     refine vB [] [.n 8] [] false (yIX Γ (⟨(cs.length : Int) + 1, vG cs cs.length, 1, d, (mkW s m cs 1 d i), []⟩ : Rc) (yCx hck hkk hd hwo.1 (.inl rfl))) ?_ (hv := by (simp (maxSteps := 2000000) [-List.map_map, -List.map_drop, -List.map_take, VwL_cons, xM, xY, vN, xV, xW, xU, Vw_agg, xS, xX, xA, VwL_refl_map, yX, xK, xL, wK, xJ, yW, xC, yV, VwTs_app, List.take_of_length_le, srcL, notIn, ObsVw, SrcOk, pOk, Go.Ot.look, resP, resN, ev, evc, mkS, push_cast, vC, ObsAt, PoiOk, hwa, uA, -List.length_flatMap]))
     iterate 3 refine nK ?_
     refine vB [] [] [] false (Cy.refEpoch_good Γ s hs (cs.length + 1) (by omega)) ?_
     refine vB [] [] [] false (Cy.refseal_ok Γ (Cy.wrapB (Cy.ownB m i)) (Cy.nonceB (cs.length + 1)) (hdF (⟨(cs.length : Int) + 1, vG cs cs.length, 1, d, (mkW s m cs 1 d i), []⟩ : Rc)) (Cy.epochB s (cs.length + 1)) (Cy.wrapB_len _) (Cy.nonceB_len _) (by rw [Cy.epochB_len]; omega) (by have := yIY (⟨(cs.length : Int) + 1, vG cs cs.length, 1, d, (mkW s m cs 1 d i), []⟩ : Rc); omega)) ?_
     iterate 5 refine nK ?_
     refine kK ⟨yC4 (by kernel_rfl) (by kernel_rfl), ?_⟩
     refine yS (yC (yA rfl ?_))
     iterate 3 refine yF ?_
     refine yE (yB ?_)
     refine xE (i + 1) (wF ?_) ?_ ?_
     ·refine wL [(.n 9, .n 9), (.r 11 5 0, .r 11 5 0), (.r 0 0 0, .r 0 0 0), (.n 8, .n 8)] ?_ ?_ ?_ <;> simp [rcT, wpT, uV, uG, uG, hnx, List.flatMap_append, wpT, List.map_append, yFi]
     ·(first | omega | (simp_all <;> omega))
     ·(first | omega | (simp only []; omega))
   ·(try simp only [zB] at hc5)
    refine xQ (yM (yN (yK (yC (yD (yD (yA rfl ?_)))))))
    have h7 : ¬ 0 < cs.length := by omega
    have hi8 : i = 8 := by omega
    subst hi8
    have hwo := mkW_ok (s := s) (m := m) (cs := cs) (k := 1) (d := d) 8 (by omega)
    have hwl := (sQ hwo.1).1
    have hwa := tH (l := mkW s m cs 1 d 8) rfl
    iterate 2 refine yF ?_
    refine yE (yB (yC (yJ (yL (yC (yD (yA rfl ?_)))))))
    iterate 3 refine yF ?_
    refine yE (yB (yC (yO ?_)))
    refine ⟨.inr rfl, yP [(.n 0, .n 8)] (by rw [results34]) ?_ ?_ ?_⟩ <;> simp [rcT, wpT, uV, uG, mkR, hwa, uA, -List.length_flatMap, h7]
 ·obtain ⟨n1, hn1⟩ : ∃ n1, cs.length = n1 + 1 := ⟨cs.length - 1, by omega⟩
  have hpv : vG cs cs.length = hsh (cs.getD n1 default) := by rw [hn1, yDH]
  iterate 3 refine yF ?_
  iterate 2 refine wJ ?_
  iterate 2 refine yF ?_
  iterate 2 refine xB ?_
  iterate 2 refine yF ?_
  iterate 2 refine xB ?_
  iterate 2 refine yF ?_
  refine xB ?_
  refine wT [] false (yEU Γ cs hck) ?_
  refine xB ?_
  iterate 2 refine yF ?_
  iterate 3 refine xB ?_
  iterate 6 refine wJ ?_
  refine xB ?_
  iterate 2 refine yF ?_
  iterate 3 refine xB ?_
  iterate 2 refine wJ ?_
  refine xB ?_
  iterate 2 refine yF ?_
  refine yE (yB (yC (yJ (yD (yA rfl ?_)))))
  iterate 3 refine yF ?_
  refine xB ?_
  iterate 2 refine yF ?_
  refine yE (yB (yC (yJ (yD (yA rfl ?_)))))
  iterate 3 refine yF ?_
  iterate 2 refine wJ ?_
  iterate 2 refine yF ?_
  refine yE (yB (yC (yJ (yD (yA rfl ?_)))))
  iterate 3 refine yF ?_
  refine yE (yB (yC (yJ (yL (yS (yC (yD (yA rfl ?_))))))))
  iterate 7 refine yF ?_
  refine yE (yB (yC (yD (yD (yA rfl ?_)))))
  iterate 2 refine yF ?_
  refine yE (yB (yC (xF (yA rfl ?_))))
  iterate 2 refine yF ?_
  refine yF (hs := by (simp (disch := first | omega | (simp only [zL] <;> omega) | (simp only [push_cast] <;> omega) | fail) only [push_cast, reduceCtorEq, Nat.reduceAdd, Nat.reduceSub, Nat.reduceMul, Nat.reduceEqDiff, Nat.reduceLT, Nat.reduceLeDiff, Nat.reduceMod, Nat.reduceDiv, Int.reduceLE, Int.reduceLT, Int.reduceEq, Int.reduceToNat, Int.reduceAdd, Int.reduceSub, Int.reduceMul, Int.reduceNeg, show (cs.length : Int) - 1 = (n1 : Int) from by omega] <;> rfl)) ?_
  iterate 2 refine yF ?_
  refine yU [] false (yEn Γ (cs.getD n1 default) (kC hck (by omega)).1) ?_
  iterate 2 refine yF ?_
  refine yE (yB (yC (yD (yA rfl ?_))))
  iterate 4 refine yF ?_
  refine yE (yB (yC (yD (yA rfl ?_))))
  iterate 5 refine yF ?_
  refine yE (yB (yC (yD (yD (yA rfl ?_)))))
  refine yF ?_
  refine yE (yB (yC (yH ?_)))
  refine xN (fun sl L (i : Nat) => ⟨setAll (setBad sl [2, 3, 4, 12, 16, 17, 18, 19, 20, 21, 22, 23, 24, 25, 26, 27, 28, 29, 30, 31, 32, 33, 34, 35, 36, 37, 38, 39, 40, 41, 42, 43, 44, 45, 46, 47, 48, 49, 50, 51, 52, 53, 54, 55, 56, 57, 58, 59, 60, 61, 62, 63, 64, 65, 66, 67, 68, 69, 70, 71, 72, 73, 74, 75, 76, 77, 78, 79, 80, 81, 82, 83, 84, 85, 86, 87, 88, 89, 90, 91, 92, 93, 94, 95, 96, 97, 98, 99, 100, 101, 102, 103, 104, 105, 106, 107, 108, 109, 110, 111, 112, 113, 114, 115, 116, 117, 118, 119, 120, 121, 122, 123, 124, 125, 126, 127, 128, 129, 130, 131, 132]) [(14, .msl (.n 9) 0 (cs.length + 1) 6), (15, .t (num i))], Go.Ot.look (vD (.n 9) (uV (cs ++ [mk0 cs 1 d])) (vD (.n 8) (uG (mkW s m cs 1 d i)) (vD (.r 11 5 0) (xR 39 [.t (num ((cs.length : Int) + 1)), .t (txt (vG cs cs.length)), .t (num 1), .t (num d), .msl (.n 8) 0 (mkW s m cs 1 d i).length 2, .t (txt [])]) (lN (.r 14 0 0) (lN (.r 15 2 0) L)))))⟩) (fun i => i ≤ 8) (fun i => 8 - i) (0) (wF ?_) ?_ ?_
  ·refine wL [(.n 9, .r 14 0 0), (.r 11 5 0, .r 11 5 0), (.r 0 0 0, .r 0 0 0)] ?_ ?_ ?_ <;> simp [rcT, wpT, uV, uG, uV, uG, mkW_0, mk0, List.flatMap_append, rcT, List.map_append, VwL_app, hpv]
  ·(first | omega | simp)
  ·intro i hi
   refine vE ?_
   refine yD (yD (yA rfl ?_))
   iterate 2 refine yF ?_
   refine yE (yB (yC ?_))
   refine vL (fun hc5 => ?_) (fun hc5 => ?_)
   ·(try simp only [zB] at hc5)
    refine yL (yC (yD (yH (yD (yA rfl ?_)))))
    have hwo := mkW_ok (s := s) (m := m) (cs := cs) (k := 1) (d := d) i (by omega)
    have hwl := (sQ hwo.1).1
    have hwa := tH (l := (mkW s m cs 1 d i)) rfl
    rcases hin2 : inB (cs ++ [mk0 cs 1 d]) ((cs.length : Int) + 1) i with _ | _
    ·have hnx := yF9 (s := s) (m := m) hin2
     iterate 4 refine yF ?_
     refine yU [.n 9] false ((by have h := uQ Γ (cs ++ [mk0 cs 1 d]) ((cs.length : Int) + 1) i (by omega); rw [hin2] at h; exact h)) ?_ (hv := by (simp (maxSteps := 2000000) (disch := first | omega | (simp only [zL] <;> omega) | fail) [-List.map_map, -List.map_drop, -List.map_take, VwL_cons, xM, xY, vN, xV, xW, xU, Vw_agg, xS, xX, xA, VwL_refl_map, yX, xK, xL, wK, xJ, yW, xC, yV, VwTs_app, List.take_of_length_le, srcL, notIn, ObsVw, SrcOk, pOk, Go.Ot.look, resP, resN, ev, evc, mkS, push_cast, List.take_of_length_le, hcl, hal, uB, -List.length_flatMap, -List.flatMap_append, -List.length_append, -List.map_append] <;> (try omega)))
     refine yE (yB (yC (yJ (yL (yS (yC (yA rfl ?_)))))))
     iterate 3 refine yF ?_
     refine yE (yB ?_)
     refine xE (i + 1) (wF ?_) ?_ ?_
     ·refine wL [(.n 9, .n 9), (.r 11 5 0, .r 11 5 0), (.r 0 0 0, .r 0 0 0), (.n 8, .n 8)] ?_ ?_ ?_ <;> simp [rcT, wpT, uV, uG, uG, hnx]
     ·(first | omega | (simp_all <;> omega))
     ·(first | omega | (simp only []; omega))
    ·have hnx := yF8 (s := s) (m := m) hin2
     iterate 4 refine yF ?_
     refine yU [.n 9] false ((by have h := uQ Γ (cs ++ [mk0 cs 1 d]) ((cs.length : Int) + 1) i (by omega); rw [hin2] at h; exact h)) ?_ (hv := by (simp (maxSteps := 2000000) (disch := first | omega | (simp only [zL] <;> omega) | fail) [-List.map_map, -List.map_drop, -List.map_take, VwL_cons, xM, xY, vN, xV, xW, xU, Vw_agg, xS, xX, xA, VwL_refl_map, yX, xK, xL, wK, xJ, yW, xC, yV, VwTs_app, List.take_of_length_le, srcL, notIn, ObsVw, SrcOk, pOk, Go.Ot.look, resP, resN, ev, evc, mkS, push_cast, List.take_of_length_le, hcl, hal, uB, -List.length_flatMap, -List.flatMap_append, -List.length_append, -List.map_append] <;> (try omega)))
     refine yE (yB (yC (xF ?_)))
     refine tD (.n 8) [113, 122, 131] [.r 11 5 0] rfl ?_
     iterate 5 refine nK ?_
     refine vB [] [] [] false (Cy.refOwn_good Γ m hm i (by omega)) ?_
     refine vB [] [] [] false (Cy.refWrap_good Γ (Cy.ownB m i) (by rw [Cy.ownB_len]; omega)) ?_
     iterate 2 refine nK ?_
     refine vB [] [] [] false (Cy.refnonce_good Γ (cs.length + 1)) ?_
     refine nK ?_
     refine vB [] [.n 8] [] false (yIX Γ (⟨(cs.length : Int) + 1, vG cs cs.length, 1, d, (mkW s m cs 1 d i), []⟩ : Rc) (yCx hck hkk hd hwo.1 (.inl rfl))) ?_ (hv := by (simp (maxSteps := 2000000) [-List.map_map, -List.map_drop, -List.map_take, VwL_cons, xM, xY, vN, xV, xW, xU, Vw_agg, xS, xX, xA, VwL_refl_map, yX, xK, xL, wK, xJ, yW, xC, yV, VwTs_app, List.take_of_length_le, srcL, notIn, ObsVw, SrcOk, pOk, Go.Ot.look, resP, resN, ev, evc, mkS, push_cast, vC, ObsAt, PoiOk, hwa, uA, -List.length_flatMap]))
     iterate 3 refine nK ?_
     refine vB [] [] [] false (Cy.refEpoch_good Γ s hs (cs.length + 1) (by omega)) ?_
     refine vB [] [] [] false (Cy.refseal_ok Γ (Cy.wrapB (Cy.ownB m i)) (Cy.nonceB (cs.length + 1)) (hdF (⟨(cs.length : Int) + 1, vG cs cs.length, 1, d, (mkW s m cs 1 d i), []⟩ : Rc)) (Cy.epochB s (cs.length + 1)) (Cy.wrapB_len _) (Cy.nonceB_len _) (by rw [Cy.epochB_len]; omega) (by have := yIY (⟨(cs.length : Int) + 1, vG cs cs.length, 1, d, (mkW s m cs 1 d i), []⟩ : Rc); omega)) ?_
     iterate 5 refine nK ?_
     refine kK ⟨yC4 (by kernel_rfl) (by kernel_rfl), ?_⟩
     refine yS (yC (yA rfl ?_))
     iterate 3 refine yF ?_
     refine yE (yB ?_)
     refine xE (i + 1) (wF ?_) ?_ ?_
     ·refine wL [(.n 9, .n 9), (.r 11 5 0, .r 11 5 0), (.r 0 0 0, .r 0 0 0), (.n 8, .n 8)] ?_ ?_ ?_ <;> simp [rcT, wpT, uV, uG, uG, hnx, List.flatMap_append, wpT, List.map_append, yFi]
     ·(first | omega | (simp_all <;> omega))
     ·(first | omega | (simp only []; omega))
   ·(try simp only [zB] at hc5)
    refine xQ (yM (yN (yK (yC (yD (yD (yA rfl ?_)))))))
    have h7 : 0 < cs.length := by omega
    have hi8 : i = 8 := by omega
    subst hi8
    have hwo := mkW_ok (s := s) (m := m) (cs := cs) (k := 1) (d := d) 8 (by omega)
    have hwl := (sQ hwo.1).1
    have hwa := tH (l := mkW s m cs 1 d 8) rfl
    iterate 2 refine yF ?_
    refine yE (yB (yC (xF (yA rfl ?_))))
    iterate 2 refine yY ?_
    refine yZ [] false (Cy.refEpoch_good Γ s hs cs.length (by omega)) ?_
    refine yY ?_
    refine yZ [.n 8] false (tagRP Γ (Cy.epochB s cs.length) (by rw [Cy.epochB_len]; omega) ((cs.length : Int) + 1) (vG cs cs.length) 1 d (mkW s m cs 1 d 8) (yCx hck hkk hd hwo.1 (.inl rfl))) ?_ (hv := by (simp (maxSteps := 2000000) (disch := first | omega | (simp only [zL] <;> omega) | fail) [-List.map_map, -List.map_drop, -List.map_take, VwL_cons, xM, xY, vN, xV, xW, xU, Vw_agg, xS, xX, xA, VwL_refl_map, yX, xK, xL, wK, xJ, yW, xC, yV, VwTs_app, List.take_of_length_le, srcL, notIn, ObsVw, SrcOk, pOk, Go.Ot.look, resP, resN, ev, evc, mkS, push_cast, List.take_of_length_le, hwa, uA, -List.length_flatMap] <;> (try omega)))
    iterate 2 refine yY ?_
    refine yE (xO (by kernel_rfl) (yC (yD (yA rfl ?_))))
    iterate 3 refine yF ?_
    refine yE (yB (yC (yO ?_)))
    refine ⟨.inr rfl, yP [(.n 0, .n 8)] (by rw [results34]) ?_ ?_ ?_⟩ <;> simp [rcT, wpT, uV, uG, mkR, hwa, uA, -List.length_flatMap, h7, mkT]
theorem yCz (Γ : Gl) (s m : List UInt8) (hs : s.length ≤ 1000) (hm : m.length ≤ 1000) (cs : List Rc) (hck : ckB cs = true) (hl : cs.length < 40) (hw : ∀ j, (cs.getD j default).wraps.length ≤ 9223372036854775807) (d : Int) (hd : 0 ≤ d ∧ d < 8) (h2 : d ≠ 0) (hin : inB cs cs.length d = true) (hz : 0 < cs.length) : Go.Ot.Good Γ prog 34 [.t (txt s), .t (txt m), .t (.sl cs.length (cs.flatMap rcT)), .t (num 2), .t (num d)] [] (.agg [.t (num (mkR s m cs 2 d).seq), .t (txt (mkR s m cs 2 d).prev), .t (num (mkR s m cs 2 d).kind), .t (num (mkR s m cs 2 d).dev), .msl (.n 0) 0 (mkW s m cs 2 d 8).length 2, .t (txt (mkR s m cs 2 d).tag), .t (num 0)]) [] [uG (mkW s m cs 2 d 8)] := by
 have hkk : (2 : Int) = 1 ∨ (2 : Int) = 2 := by decide
 have hcl := yDV cs 2 d
 have hal := qM hcl
 refine yR F.mix func34 (by rfl) ntmps34 ?_
 refine yD (yA rfl ?_)
 refine yF ?_
 refine yE (yB (yC (yD (yA rfl ?_))))
 iterate 3 refine yF ?_
 refine yE (yB (yC (yD (yA rfl ?_))))
 iterate 3 refine yF ?_
 refine yU [] false ((by have h := uQ Γ cs (cs.length : Int) d (by omega); rw [hin] at h; exact h)) ?_
 refine yF ?_
 refine yE (yB (yC (yD (yH (yD (yA rfl ?_))))))
 obtain ⟨n1, hn1⟩ : ∃ n1, cs.length = n1 + 1 := ⟨cs.length - 1, by omega⟩
 have hpv : vG cs cs.length = hsh (cs.getD n1 default) := by rw [hn1, yDH]
 iterate 3 refine yF ?_
 iterate 2 refine xB ?_
 iterate 2 refine yF ?_
 iterate 2 refine xB ?_
 iterate 2 refine yF ?_
 iterate 2 refine xB ?_
 iterate 2 refine yF ?_
 refine xB ?_
 refine wT [] false (yEU Γ cs hck) ?_
 refine xB ?_
 iterate 2 refine yF ?_
 iterate 3 refine xB ?_
 iterate 6 refine wJ ?_
 refine xB ?_
 iterate 2 refine yF ?_
 iterate 6 refine xB ?_
 iterate 2 refine yF ?_
 refine yE (yB (yC (yJ (yD (yA rfl ?_)))))
 iterate 3 refine yF ?_
 refine wJ ?_
 iterate 2 refine yF ?_
 refine yE (yB (yC (yJ (yD (yA rfl ?_)))))
 iterate 3 refine yF ?_
 iterate 2 refine xB ?_
 iterate 2 refine yF ?_
 refine yE (yB (yC (yJ (yD (yA rfl ?_)))))
 iterate 3 refine yF ?_
 refine yE (yB (yC (yJ (yL (yS (yC (yD (yA rfl ?_))))))))
 iterate 7 refine yF ?_
 refine yE (yB (yC (yD (yD (yA rfl ?_)))))
 iterate 2 refine yF ?_
 refine yE (yB (yC (xF (yA rfl ?_))))
 iterate 2 refine yF ?_
 refine yF (hs := by (simp (disch := first | omega | (simp only [zL] <;> omega) | (simp only [push_cast] <;> omega) | fail) only [push_cast, reduceCtorEq, Nat.reduceAdd, Nat.reduceSub, Nat.reduceMul, Nat.reduceEqDiff, Nat.reduceLT, Nat.reduceLeDiff, Nat.reduceMod, Nat.reduceDiv, Int.reduceLE, Int.reduceLT, Int.reduceEq, Int.reduceToNat, Int.reduceAdd, Int.reduceSub, Int.reduceMul, Int.reduceNeg, show (cs.length : Int) - 1 = (n1 : Int) from by omega] <;> rfl)) ?_
 iterate 2 refine yF ?_
 refine yU [] false (yEn Γ (cs.getD n1 default) (kC hck (by omega)).1) ?_
 iterate 2 refine yF ?_
 refine yE (yB (yC (yD (yA rfl ?_))))
 iterate 4 refine yF ?_
 refine yE (yB (yC (yD (yA rfl ?_))))
 iterate 5 refine yF ?_
 refine yE (yB (yC (yD (yD (yA rfl ?_)))))
 refine yF ?_
 refine yE (yB (yC (yH ?_)))
 refine xN (fun sl L (i : Nat) => ⟨setAll (setBad sl [2, 3, 4, 12, 16, 17, 18, 19, 20, 21, 22, 23, 24, 25, 26, 27, 28, 29, 30, 31, 32, 33, 34, 35, 36, 37, 38, 39, 40, 41, 42, 43, 44, 45, 46, 47, 48, 49, 50, 51, 52, 53, 54, 55, 56, 57, 58, 59, 60, 61, 62, 63, 64, 65, 66, 67, 68, 69, 70, 71, 72, 73, 74, 75, 76, 77, 78, 79, 80, 81, 82, 83, 84, 85, 86, 87, 88, 89, 90, 91, 92, 93, 94, 95, 96, 97, 98, 99, 100, 101, 102, 103, 104, 105, 106, 107, 108, 109, 110, 111, 112, 113, 114, 115, 116, 117, 118, 119, 120, 121, 122, 123, 124, 125, 126, 127, 128, 129, 130, 131, 132]) [(14, .msl (.n 9) 0 (cs.length + 1) 6), (15, .t (num i))], Go.Ot.look (vD (.n 9) (uV (cs ++ [mk0 cs 2 d])) (vD (.n 8) (uG (mkW s m cs 2 d i)) (vD (.r 11 5 0) (xR 39 [.t (num ((cs.length : Int) + 1)), .t (txt (vG cs cs.length)), .t (num 2), .t (num d), .msl (.n 8) 0 (mkW s m cs 2 d i).length 2, .t (txt [])]) (lN (.r 14 0 0) (lN (.r 15 2 0) L)))))⟩) (fun i => i ≤ 8) (fun i => 8 - i) (0) (wF ?_) ?_ ?_
 ·refine wL [(.n 9, .r 14 0 0), (.r 11 5 0, .r 11 5 0), (.r 0 0 0, .r 0 0 0)] ?_ ?_ ?_ <;> simp [rcT, wpT, uV, uG, uV, uG, mkW_0, mk0, List.flatMap_append, rcT, List.map_append, VwL_app, hpv]
 ·(first | omega | simp)
 ·intro i hi
  refine vE ?_
  refine yD (yD (yA rfl ?_))
  iterate 2 refine yF ?_
  refine yE (yB (yC ?_))
  refine vL (fun hc5 => ?_) (fun hc5 => ?_)
  ·(try simp only [zB] at hc5)
   refine yL (yC (yD (yH (yD (yA rfl ?_)))))
   have hwo := mkW_ok (s := s) (m := m) (cs := cs) (k := 2) (d := d) i (by omega)
   have hwl := (sQ hwo.1).1
   have hwa := tH (l := (mkW s m cs 2 d i)) rfl
   rcases hin2 : inB (cs ++ [mk0 cs 2 d]) ((cs.length : Int) + 1) i with _ | _
   ·have hnx := yF9 (s := s) (m := m) hin2
    iterate 4 refine yF ?_
    refine yU [.n 9] false ((by have h := uQ Γ (cs ++ [mk0 cs 2 d]) ((cs.length : Int) + 1) i (by omega); rw [hin2] at h; exact h)) ?_ (hv := by (simp (maxSteps := 2000000) (disch := first | omega | (simp only [zL] <;> omega) | fail) [-List.map_map, -List.map_drop, -List.map_take, VwL_cons, xM, xY, vN, xV, xW, xU, Vw_agg, xS, xX, xA, VwL_refl_map, yX, xK, xL, wK, xJ, yW, xC, yV, VwTs_app, List.take_of_length_le, srcL, notIn, ObsVw, SrcOk, pOk, Go.Ot.look, resP, resN, ev, evc, mkS, push_cast, List.take_of_length_le, hcl, hal, uB, -List.length_flatMap, -List.flatMap_append, -List.length_append, -List.map_append] <;> (try omega)))
    refine yE (yB (yC (yJ (yL (yS (yC (yA rfl ?_)))))))
    iterate 3 refine yF ?_
    refine yE (yB ?_)
    refine xE (i + 1) (wF ?_) ?_ ?_
    ·refine wL [(.n 9, .n 9), (.r 11 5 0, .r 11 5 0), (.r 0 0 0, .r 0 0 0), (.n 8, .n 8)] ?_ ?_ ?_ <;> simp [rcT, wpT, uV, uG, uG, hnx]
    ·(first | omega | (simp_all <;> omega))
    ·(first | omega | (simp only []; omega))
   ·have hnx := yF8 (s := s) (m := m) hin2
    iterate 4 refine yF ?_
    refine yU [.n 9] false ((by have h := uQ Γ (cs ++ [mk0 cs 2 d]) ((cs.length : Int) + 1) i (by omega); rw [hin2] at h; exact h)) ?_ (hv := by (simp (maxSteps := 2000000) (disch := first | omega | (simp only [zL] <;> omega) | fail) [-List.map_map, -List.map_drop, -List.map_take, VwL_cons, xM, xY, vN, xV, xW, xU, Vw_agg, xS, xX, xA, VwL_refl_map, yX, xK, xL, wK, xJ, yW, xC, yV, VwTs_app, List.take_of_length_le, srcL, notIn, ObsVw, SrcOk, pOk, Go.Ot.look, resP, resN, ev, evc, mkS, push_cast, List.take_of_length_le, hcl, hal, uB, -List.length_flatMap, -List.flatMap_append, -List.length_append, -List.map_append] <;> (try omega)))
    refine yE (yB (yC (xF ?_)))
    refine tD (.n 8) [113, 122, 131] [.r 11 5 0] rfl ?_
    iterate 5 refine nK ?_
    refine vB [] [] [] false (Cy.refOwn_good Γ m hm i (by omega)) ?_
    refine vB [] [] [] false (Cy.refWrap_good Γ (Cy.ownB m i) (by rw [Cy.ownB_len]; omega)) ?_
    iterate 2 refine nK ?_
    refine vB [] [] [] false (Cy.refnonce_good Γ (cs.length + 1)) ?_
    refine nK ?_
    refine vB [] [.n 8] [] false (yIX Γ (⟨(cs.length : Int) + 1, vG cs cs.length, 2, d, (mkW s m cs 2 d i), []⟩ : Rc) (yCx hck hkk hd hwo.1 (.inl rfl))) ?_ (hv := by (simp (maxSteps := 2000000) [-List.map_map, -List.map_drop, -List.map_take, VwL_cons, xM, xY, vN, xV, xW, xU, Vw_agg, xS, xX, xA, VwL_refl_map, yX, xK, xL, wK, xJ, yW, xC, yV, VwTs_app, List.take_of_length_le, srcL, notIn, ObsVw, SrcOk, pOk, Go.Ot.look, resP, resN, ev, evc, mkS, push_cast, vC, ObsAt, PoiOk, hwa, uA, -List.length_flatMap]))
    iterate 3 refine nK ?_
    refine vB [] [] [] false (Cy.refEpoch_good Γ s hs (cs.length + 1) (by omega)) ?_
    refine vB [] [] [] false (Cy.refseal_ok Γ (Cy.wrapB (Cy.ownB m i)) (Cy.nonceB (cs.length + 1)) (hdF (⟨(cs.length : Int) + 1, vG cs cs.length, 2, d, (mkW s m cs 2 d i), []⟩ : Rc)) (Cy.epochB s (cs.length + 1)) (Cy.wrapB_len _) (Cy.nonceB_len _) (by rw [Cy.epochB_len]; omega) (by have := yIY (⟨(cs.length : Int) + 1, vG cs cs.length, 2, d, (mkW s m cs 2 d i), []⟩ : Rc); omega)) ?_
    iterate 5 refine nK ?_
    refine kK ⟨yC4 (by kernel_rfl) (by kernel_rfl), ?_⟩
    refine yS (yC (yA rfl ?_))
    iterate 3 refine yF ?_
    refine yE (yB ?_)
    refine xE (i + 1) (wF ?_) ?_ ?_
    ·refine wL [(.n 9, .n 9), (.r 11 5 0, .r 11 5 0), (.r 0 0 0, .r 0 0 0), (.n 8, .n 8)] ?_ ?_ ?_ <;> simp [rcT, wpT, uV, uG, uG, hnx, List.flatMap_append, wpT, List.map_append, yFi]
    ·(first | omega | (simp_all <;> omega))
    ·(first | omega | (simp only []; omega))
  ·(try simp only [zB] at hc5)
   refine xQ (yM (yN (yK (yC (yD (yD (yA rfl ?_)))))))
   have h7 : 0 < cs.length := by omega
   have hi8 : i = 8 := by omega
   subst hi8
   have hwo := mkW_ok (s := s) (m := m) (cs := cs) (k := 2) (d := d) 8 (by omega)
   have hwl := (sQ hwo.1).1
   have hwa := tH (l := mkW s m cs 2 d 8) rfl
   iterate 2 refine yF ?_
   refine yE (yB (yC (xF (yA rfl ?_))))
   iterate 2 refine yY ?_
   refine yZ [] false (Cy.refEpoch_good Γ s hs cs.length (by omega)) ?_
   refine yY ?_
   refine yZ [.n 8] false (tagRP Γ (Cy.epochB s cs.length) (by rw [Cy.epochB_len]; omega) ((cs.length : Int) + 1) (vG cs cs.length) 2 d (mkW s m cs 2 d 8) (yCx hck hkk hd hwo.1 (.inl rfl))) ?_ (hv := by (simp (maxSteps := 2000000) (disch := first | omega | (simp only [zL] <;> omega) | fail) [-List.map_map, -List.map_drop, -List.map_take, VwL_cons, xM, xY, vN, xV, xW, xU, Vw_agg, xS, xX, xA, VwL_refl_map, yX, xK, xL, wK, xJ, yW, xC, yV, VwTs_app, List.take_of_length_le, srcL, notIn, ObsVw, SrcOk, pOk, Go.Ot.look, resP, resN, ev, evc, mkS, push_cast, List.take_of_length_le, hwa, uA, -List.length_flatMap] <;> (try omega)))
   iterate 2 refine yY ?_
   refine yE (xO (by kernel_rfl) (yC (yD (yA rfl ?_))))
   iterate 3 refine yF ?_
   refine yE (yB (yC (yO ?_)))
   refine ⟨.inr rfl, yP [(.n 0, .n 8)] (by rw [results34]) ?_ ?_ ?_⟩ <;> simp [rcT, wpT, uV, uG, mkR, hwa, uA, -List.length_flatMap, h7, mkT]
end Go.Proofs.Tryz

namespace Go.Proofs.Tryz
open Go Go.Ot
theorem ck_w {l : List Rc} (h : ckB l = true) (j : Nat) : (l.getD j default).wraps.length ≤ 9223372036854775807 := w8_w (fun r hr => (sQ (lO h hr).2.2.2.2.2.2).1) j
theorem yIL (s m : List UInt8) (cs : List Rc) (k d : Int) : mkW s m cs k d 8 = (mkR s m cs k d).wraps := rfl
theorem ck_nil : ckB [] = true := by decide +kernel
theorem in_nil : inB [] (([] : List Rc).length : Int) 0 = false := by decide +kernel
attribute [local simp] num bol txt w8 w16 w32 w64 lst cls xZ xR List.take_of_length_le
attribute [local irreducible] wpK wpS uE wH wV wN wZ xD Le rdS lpW rdW got tB mayW uW putW nb u64 qB mwB sha rcF hdF hsh RG inF chC fl lkT ckB inR inB mkW mkR yFi vG Cy.derB Cy.hmacB Cy.sealB Cy.ownB Cy.epochB Cy.wrapB Cy.nonceB lgL lgK
theorem log_rc (Γ : Gl) (s m : List UInt8) (hs : s.length ≤ 1000) (hm : m.length ≤ 1000) (ns : List UInt8) (hn : ns.length ≤ 9223372036854775807) : Go.Ot.Good Γ prog 12 [.t (txt s), .t (txt m), .t (lst w8 ns)] [] (.t (.sl (lgE s m ns).length ((lgE s m ns).flatMap rcT))) [] [] := by
 refine yR F.mix func12 (by rfl) ntmps12 ?_
 refine yD (yA rfl ?_)
 refine yF ?_
 refine yE (yB (yC (yD (yA rfl ?_))))
 iterate 2 refine yF ?_
 refine yU [] false (eE Γ s m hs hm [] ck_nil (by decide) (ck_w ck_nil) 0 (by decide) (fun _ => rfl) in_nil) ?_ (hv := by (simp (maxSteps := 2000000) (disch := first | omega | (simp only [zL] <;> omega) | fail) [-List.map_map, -List.map_drop, -List.map_take, VwL_cons, xM, xY, vN, xV, xW, xU, Vw_agg, xS, xX, xA, VwL_refl_map, yX, xK, xL, wK, xJ, yW, xC, yV, VwTs_app, List.take_of_length_le, srcL, notIn, ObsVw, SrcOk, pOk, Go.Ot.look, resP, resN, ev, evc, mkS, push_cast, List.take_of_length_le] <;> (try omega)))
 iterate 3 refine yF ?_
 refine yE (yB (yC (yD (yD (yA rfl ?_)))))
 refine yF ?_
 refine yE (yB (yC (yH ?_)))
 refine xN (fun sl L (i : Nat) => ⟨setAll (setBad sl [9, 10, 11, 12, 13, 14, 15, 16, 17, 18, 19, 20, 21, 22, 23, 24, 25, 26, 27, 28, 29, 30, 31, 32, 33, 34, 35, 36, 37, 38, 39, 40, 41, 42, 43, 44, 45, 46, 47, 48]) [(7, .msl (.n 9) 0 (i + 1) 6), (8, .t (num i))], Go.Ot.look (vD (.n 9) (uV (lgL s m ns i)) (lN (.r 1 2 0) (lN (.r 1 4 0) L)))⟩) (fun i => i ≤ ns.length ∧ i ≤ 7) (fun i => ns.length - i) (0) (wF ?_) ?_ ?_
 ·refine wL [(.n 9, .r 1 4 0)] ?_ ?_ ?_ <;> simp [rcT, wpT, uV, lgL_0, rcT, yIL, tH (l := (mkR s m [] 1 0).wraps) rfl, uA, -List.length_flatMap]
 ·exact ⟨Nat.zero_le _, Nat.zero_le _⟩
 ·rintro i ⟨hi, hi2⟩
  refine vE ?_
  refine yD (yD (yA rfl ?_))
  rcases (show i = ns.length ∨ (i < ns.length ∧ i = 7) ∨ (i < ns.length ∧ i < 7) by omega) with h1 | ⟨h1, h2⟩ | ⟨h1, h2⟩
  ·skip
   iterate 5 refine yF ?_
   iterate 3 refine wJ ?_
   refine yF ?_
   refine yE (yB (yC (yJ (xQ (yM (yN (yK (yC (yD (yA rfl ?_))))))))))
   have hq : lgE s m ns = (lgL s m ns i) := by rw [lgE, show min ns.length 7 = i from by omega]
   have hal := qM (wY s m ns i)
   iterate 2 refine yF ?_
   refine yE (yB (yC (yO ?_)))
   refine ⟨.inr rfl, yP [] (by rw [results12]) ?_ ?_ ?_⟩ <;> simp [rcT, wpT, hq, wY, hal, uB, -List.length_flatMap]
  ·skip
   iterate 5 refine yF ?_
   iterate 3 refine xB ?_
   refine yF ?_
   refine yE (yB (yC (yJ (xQ (yM (yN (yK (yC (yD (yA rfl ?_))))))))))
   have hq : lgE s m ns = (lgL s m ns i) := by rw [lgE, show min ns.length 7 = i from by omega]
   have hal := qM (wY s m ns i)
   iterate 2 refine yF ?_
   refine yE (yB (yC (yO ?_)))
   refine ⟨.inr rfl, yP [] (by rw [results12]) ?_ ?_ ?_⟩ <;> simp [rcT, wpT, hq, wY, hal, uB, -List.length_flatMap]
  ·skip
   iterate 5 refine yF ?_
   iterate 3 refine xB ?_
   refine yF ?_
   refine yE (yB (yC (xF (yL (yC (yD (yH (yD (yA rfl ?_)))))))))
   iterate 4 refine yF ?_
   obtain ⟨b, hb⟩ : ∃ b, ns.getD i 0 = b := ⟨_, rfl⟩
   simp only [hb]
   have hb8 := b.toNat_lt
   obtain ⟨dd, hd, hd1, hd2⟩ : ∃ d : Int, (b.toNat : Int) % 4 = d ∧ 0 ≤ d ∧ d ≤ 3 := ⟨_, rfl, by omega, by omega⟩
   have hd3 : (b.toNat : Int).tmod 4 = dd := by rw [Int.tmod_eq_emod_of_nonneg (by omega)]; exact hd
   refine yF ?_
   refine yF (hs := by (simp (disch := first | omega | (simp only [zL] <;> omega) | (simp only [push_cast] <;> omega) | fail) only [push_cast, reduceCtorEq, Nat.reduceAdd, Nat.reduceSub, Nat.reduceMul, Nat.reduceEqDiff, Nat.reduceLT, Nat.reduceLeDiff, Nat.reduceMod, Nat.reduceDiv, Int.reduceLE, Int.reduceLT, Int.reduceEq, Int.reduceToNat, Int.reduceAdd, Int.reduceSub, Int.reduceMul, Int.reduceNeg, hd, hd3] <;> rfl)) ?_
   iterate 2 refine yF ?_
   refine yE (yB (yC (yD (yA rfl ?_))))
   refine yF ?_
   refine yE (yB (yC (yD (yD (yA rfl ?_)))))
   rcases hc : (inF (lgL s m ns i) (i + 1)).contains (1 + dd) with _ | _
   ·have hin1 : inB (lgL s m ns i) ((lgL s m ns i).length : Int) (1 + dd) = false := by rw [yHA (kA s m ns i (by omega)) (by omega), wY, hc]
    have hin : inB (lgL s m ns i) ((i : Int) + 1) (1 + dd) = false := by rw [wY] at hin1; exact hin1
    iterate 4 refine yF ?_
    refine yU [.n 9] false ((by have h := uQ Γ (lgL s m ns i) ((i : Int) + 1) (1 + dd) (by rw [wY]; omega); rw [hin] at h; exact h)) ?_ (hv := by (simp (maxSteps := 2000000) (disch := first | omega | (simp only [zL] <;> omega) | fail) [-List.map_map, -List.map_drop, -List.map_take, VwL_cons, xM, xY, vN, xV, xW, xU, Vw_agg, xS, xX, xA, VwL_refl_map, yX, xK, xL, wK, xJ, yW, xC, yV, VwTs_app, List.take_of_length_le, srcL, notIn, ObsVw, SrcOk, pOk, Go.Ot.look, resP, resN, ev, evc, mkS, push_cast, List.take_of_length_le, wY, qM (wY s m ns i), uB, -List.length_flatMap] <;> (try omega)))
    refine yE (yB (yC (yJ (yL (yC (yA rfl ?_))))))
    obtain ⟨r, hr⟩ : ∃ r, mkR s m (lgL s m ns i) 1 (1 + dd) = r := ⟨_, rfl⟩
    have hrw : mkW s m (lgL s m ns i) 1 (1 + dd) 8 = r.wraps := by rw [← hr, yIL]
    have hwa := tH (l := r.wraps) rfl
    have hD : lgD b = 1 + dd := by rw [lgD, hd]
    have hK : lgK (lgL s m ns i) b = 1 := by rw [lgK, hD, wY, hc]; rfl
    have hnx : lgL s m ns (i + 1) = (lgL s m ns i) ++ [r] := by rw [yCA, hb, hD, hK, hr]
    iterate 6 refine yF ?_
    refine yU [.n 9] false ((by have h := eE Γ s m hs hm (lgL s m ns i) (kA s m ns i (by omega)) (by rw [wY]; omega) (ck_w (kA s m ns i (by omega))) (1 + dd) (by omega) (fun h => by rw [wY] at h; omega) hin1; rw [hr, hrw] at h; exact h)) ?_ (hv := by (simp (maxSteps := 2000000) (disch := first | omega | (simp only [zL] <;> omega) | fail) [-List.map_map, -List.map_drop, -List.map_take, VwL_cons, xM, xY, vN, xV, xW, xU, Vw_agg, xS, xX, xA, VwL_refl_map, yX, xK, xL, wK, xJ, yW, xC, yV, VwTs_app, List.take_of_length_le, srcL, notIn, ObsVw, SrcOk, pOk, Go.Ot.look, resP, resN, ev, evc, mkS, push_cast, List.take_of_length_le, wY, qM (wY s m ns i), uB, -List.length_flatMap] <;> (try omega)))
    iterate 4 refine yF ?_
    refine yE (yB (yS (yC (yA rfl ?_))))
    iterate 3 refine yF ?_
    refine yE (yB ?_)
    refine xE (i + 1) (wF ?_) ?_ ?_
    ·refine wL [(.n 9, .n 9)] ?_ ?_ ?_ <;> simp [rcT, wpT, uV, hnx, List.flatMap_append, rcT, List.map_append, VwL_app, hwa, uA, -List.length_flatMap]
    ·exact ⟨by omega, by omega⟩
    ·(first | omega | (simp only []; omega))
   ·have hin1 : inB (lgL s m ns i) ((lgL s m ns i).length : Int) (1 + dd) = true := by rw [yHA (kA s m ns i (by omega)) (by omega), wY, hc]
    have hin : inB (lgL s m ns i) ((i : Int) + 1) (1 + dd) = true := by rw [wY] at hin1; exact hin1
    iterate 4 refine yF ?_
    refine yU [.n 9] false ((by have h := uQ Γ (lgL s m ns i) ((i : Int) + 1) (1 + dd) (by rw [wY]; omega); rw [hin] at h; exact h)) ?_ (hv := by (simp (maxSteps := 2000000) (disch := first | omega | (simp only [zL] <;> omega) | fail) [-List.map_map, -List.map_drop, -List.map_take, VwL_cons, xM, xY, vN, xV, xW, xU, Vw_agg, xS, xX, xA, VwL_refl_map, yX, xK, xL, wK, xJ, yW, xC, yV, VwTs_app, List.take_of_length_le, srcL, notIn, ObsVw, SrcOk, pOk, Go.Ot.look, resP, resN, ev, evc, mkS, push_cast, List.take_of_length_le, wY, qM (wY s m ns i), uB, -List.length_flatMap] <;> (try omega)))
    refine yE (yB (yC (xF (yA rfl ?_))))
    refine yF ?_
    refine yE (yB (yC (yA rfl ?_)))
    obtain ⟨r, hr⟩ : ∃ r, mkR s m (lgL s m ns i) 2 (1 + dd) = r := ⟨_, rfl⟩
    have hrw : mkW s m (lgL s m ns i) 2 (1 + dd) 8 = r.wraps := by rw [← hr, yIL]
    have hwa := tH (l := r.wraps) rfl
    have hD : lgD b = 1 + dd := by rw [lgD, hd]
    have hK : lgK (lgL s m ns i) b = 2 := by rw [lgK, hD, wY, hc]; rfl
    have hnx : lgL s m ns (i + 1) = (lgL s m ns i) ++ [r] := by rw [yCA, hb, hD, hK, hr]
    iterate 6 refine yF ?_
    refine yU [.n 9] false ((by have h := yCz Γ s m hs hm (lgL s m ns i) (kA s m ns i (by omega)) (by rw [wY]; omega) (ck_w (kA s m ns i (by omega))) (1 + dd) (by omega) (by omega) hin1 (by rw [wY]; omega); rw [hr, hrw] at h; exact h)) ?_ (hv := by (simp (maxSteps := 2000000) (disch := first | omega | (simp only [zL] <;> omega) | fail) [-List.map_map, -List.map_drop, -List.map_take, VwL_cons, xM, xY, vN, xV, xW, xU, Vw_agg, xS, xX, xA, VwL_refl_map, yX, xK, xL, wK, xJ, yW, xC, yV, VwTs_app, List.take_of_length_le, srcL, notIn, ObsVw, SrcOk, pOk, Go.Ot.look, resP, resN, ev, evc, mkS, push_cast, List.take_of_length_le, wY, qM (wY s m ns i), uB, -List.length_flatMap] <;> (try omega)))
    iterate 4 refine yF ?_
    refine yE (yB (yS (yC (yA rfl ?_))))
    iterate 3 refine yF ?_
    refine yE (yB ?_)
    refine xE (i + 1) (wF ?_) ?_ ?_
    ·refine wL [(.n 9, .n 9)] ?_ ?_ ?_ <;> simp [rcT, wpT, uV, hnx, List.flatMap_append, rcT, List.map_append, VwL_app, hwa, uA, -List.length_flatMap]
    ·exact ⟨by omega, by omega⟩
    ·(first | omega | (simp only []; omega))
end Go.Proofs.Tryz
