/- Wires as a walk meets them. -/
import Derived.Test.YtkbikblijipceaaGreatDoorSWP
import Derived.Test.YtkbikblijipceaaGreatDoorOtE
set_option linter.unusedVariables false
set_option linter.unusedSimpArgs false
namespace Go.Ot

/-! ### wires in a walk -/
theorem bdec_pos {p : Prop} [Decidable p] (h : p) : decide p = true := decide_eq_true h
theorem bdec_neg {p : Prop} [Decidable p] (h : ¬ p) : decide p = false := decide_eq_false h
attribute [push_cast] bdec_pos bdec_neg
theorem Wr.cells_eq (w : Wr) : w.cells = [num w.k, num w.n, txt w.s, .sl w.l.length (Wr.cellsL w.l)] := by cases w; rfl
@[push_cast] theorem Wr.k_mk (k n : Int) (s : List UInt8) (l : List Wr) : (Wr.mk k n s l).k = k := rfl
@[push_cast] theorem Wr.n_mk (k n : Int) (s : List UInt8) (l : List Wr) : (Wr.mk k n s l).n = n := rfl
@[push_cast] theorem Wr.s_mk (k n : Int) (s : List UInt8) (l : List Wr) : (Wr.mk k n s l).s = s := rfl
@[push_cast] theorem Wr.l_mk (k n : Int) (s : List UInt8) (l : List Wr) : (Wr.mk k n s l).l = l := rfl
@[push_cast] theorem Wr.z_eq : Wr.z = .mk 0 0 [] [] := rfl
def wA (w : Wr) : D := .agg [.t (num w.k), .t (num w.n), .t (txt w.s), .t (.sl w.l.length (Wr.cellsL w.l))]
def wC (w : Wr) : List D := [.t (num w.k), .t (num w.n), .t (txt w.s), .t (.sl w.l.length (Wr.cellsL w.l))]
def wS (l : List Wr) : D := .t (.sl l.length (Wr.cellsL l))
@[push_cast] theorem wA_eq (w : Wr) : wA w = .agg [.t (num w.k), .t (num w.n), .t (txt w.s), .t (.sl w.l.length (Wr.cellsL w.l))] := rfl
theorem cellsL_one (w : Wr) : Wr.cellsL [w] = [num w.k, num w.n, txt w.s, .sl w.l.length (Wr.cellsL w.l)] := by rw [← Wr.cells_eq]; simp [Wr.cellsL]
@[push_cast] theorem cellsL_len' (l : List Wr) : (Wr.cellsL l).length = l.length * 4 := Wr.cellsL_len l
@[push_cast] theorem cells_at {l : List Wr} {i : Nat} (h : i < l.length) : (((Wr.cellsL l).drop (i * 4)).map D.t).take 4 = wC (l.getD i default) := by
 rw [← List.map_take, Wr.cellsL_at h, Wr.cells_eq]; rfl
@[push_cast] theorem cells_at2 {l : List Wr} {i : Nat} (h : i < l.length) : (((Wr.cellsL l).drop (i * 4)).take 4).map D.t = wC (l.getD i default) := by
 rw [Wr.cellsL_at h, Wr.cells_eq]; rfl
@[push_cast] theorem wS_eq (l : List Wr) : wS l = .t (.sl l.length (Wr.cellsL l)) := rfl
@[push_cast, simp] theorem Vw_fn {src : Nm → Option Nm} {hp : Nm → Option Ob} {len : Nm → Prop} {f g : FuncId} {cs ds : List D} : Vw src hp len (.fn f cs) (.fn g ds) ↔ g = f ∧ VwL src hp len cs ds := by
 constructor
 ·rintro ⟨es, h, h2⟩; cases h; exact ⟨rfl, h2⟩
 ·rintro ⟨rfl, h⟩; exact ⟨ds, rfl, h⟩
@[push_cast] theorem wC_eq (w : Wr) : wC w = [.t (num w.k), .t (num w.n), .t (txt w.s), .t (.sl w.l.length (Wr.cellsL w.l))] := rfl
theorem cells_app (l : List Wr) (w : Wr) : (Wr.cellsL (l ++ [w])).map D.t = (Wr.cellsL l).map D.t ++ wC w := by
 rw [Wr.cellsL_app, cellsL_one, List.map_append]; rfl
/-! ### what the reader takes -/
def rd64 (s : List UInt8) : Nat → UInt64
 | 0 => 0
 | i + 1 => sl64 (rd64 s i) 8 ||| (s.getD i 0).toUInt64
theorem or_add (a b : Nat) (h : b < 256) : a * 256 ||| b = a * 256 + b := by
 rw [show a * 256 = a <<< 8 from by rw [Nat.shiftLeft_eq]]
 rw [Nat.shiftLeft_add_eq_or_of_lt (by omega)]
theorem rd64_bn (s : List UInt8) : ∀ i, i ≤ s.length → i ≤ 8 → (rd64 s i).toNat = bn (s.take i)
 | 0, _, _ => by simp [rd64, bn]
 | i + 1, h, h8 => by
  have ih := rd64_bn s i (by omega) (by omega)
  have hlt := bn_lt (s.take i)
  rw [List.length_take, Nat.min_eq_left (by omega)] at hlt
  have hp : 256 ^ i ≤ 256 ^ 7 := Nat.pow_le_pow_right (by omega) (by omega)
  have e : s.take (i + 1) = s.take i ++ [s.getD i 0] := by
   rw [List.take_add_one, List.getElem?_eq_getElem (by omega)]
   simp [List.getD_eq_getElem?_getD, List.getElem?_eq_getElem (show i < s.length by omega)]
  have hb := UInt8.toNat_lt (s.getD i 0)
  rw [e, bn_snoc, ← ih, rd64, UInt64.toNat_or, sl64, UInt64.toNat_ofNat', ih, Nat.shiftLeft_eq, Nat.mod_eq_of_lt (by omega)]
  have : (s.getD i 0).toUInt64.toNat = (s.getD i 0).toNat := by simp
  rw [this]
  exact or_add _ _ (by omega)
theorem bn_le (s : List UInt8) (n : Nat) (h : n ≤ 8) : bn (s.take n) < 18446744073709551616 := by
 have hlt := bn_lt (s.take n)
 have hp : 256 ^ (s.take n).length ≤ 256 ^ 8 := Nat.pow_le_pow_right (by omega) (by rw [List.length_take]; omega)
 omega
theorem bn4 (s : List UInt8) : bn (s.take 4) < 4294967296 := by
 have hlt := bn_lt (s.take 4)
 have hp : 256 ^ (s.take 4).length ≤ 256 ^ 4 := Nat.pow_le_pow_right (by omega) (by rw [List.length_take]; omega)
 omega
@[push_cast] theorem cellsL_nil : Wr.cellsL [] = [] := rfl
theorem rdS_Z (deep : Bool) (sub : List UInt8 → Rd) : rdS deep sub [] = (Wr.z, .bad [] CUT, []) := rfl
theorem rdS_1c {deep : Bool} {sub : List UInt8 → Rd} {q : List UInt8} (h : q.length < 8) : rdS deep sub (1 :: q) = (.mk 1 0 [] [], .bad [] CUT, q) := by simp [rdS, h]
theorem rdS_1 {deep : Bool} {sub : List UInt8 → Rd} {q : List UInt8} (h : 8 ≤ q.length) : rdS deep sub (1 :: q) = (.mk 1 (i64 (bn (q.take 8))) [] [], .ok, q.drop 8) := by simp [rdS, show ¬ q.length < 8 from by omega]
theorem rdS_c {deep : Bool} {sub : List UInt8 → Rd} {k : UInt8} {q : List UInt8} (hk : k.toNat ≠ 1) (h : q.length < 4) : rdS deep sub (k :: q) = (.mk k.toNat 0 [] [], .bad [] CUT, q) := by
 have e : k ≠ 1 := by rintro rfl; exact hk rfl
 simp [rdS, e, h]
theorem rdS_2t {deep : Bool} {sub : List UInt8 → Rd} {q : List UInt8} (h : 4 ≤ q.length) (hb : bn (q.take 4) ≤ 1048576) (hc : bn (q.take 4) ≤ (q.drop 4).length) : rdS deep sub (2 :: q) = (.mk 2 0 ((q.drop 4).take (bn (q.take 4))) [], .ok, (q.drop 4).drop (bn (q.take 4))) := by
 simp only [rdS, show ((2 : UInt8) = 1) = False from by simp, if_false, if_neg (show ¬ q.length < 4 by omega), true_and, if_pos hb, if_pos hc]
theorem rdS_2u {deep : Bool} {sub : List UInt8 → Rd} {q : List UInt8} (h : 4 ≤ q.length) (hb : bn (q.take 4) ≤ 1048576) (hc : (q.drop 4).length < bn (q.take 4)) : rdS deep sub (2 :: q) = (.mk 2 0 [] [], .bad [] CUT, q.drop 4) := by
 simp only [rdS, show ((2 : UInt8) = 1) = False from by simp, if_false, if_neg (show ¬ q.length < 4 by omega), true_and, if_pos hb, if_neg (show ¬ bn (q.take 4) ≤ (q.drop 4).length by omega)]
theorem rdS_2g {deep : Bool} {sub : List UInt8 → Rd} {q : List UInt8} (h : 4 ≤ q.length) (hb : 1048576 < bn (q.take 4)) : rdS deep sub (2 :: q) = (.mk 2 0 [] [], .bad [] KS, q.drop 4) := by
 simp only [rdS, show ((2 : UInt8) = 1) = False from by simp, show ((2 : UInt8) = 3) = False from by simp, if_false, if_neg (show ¬ q.length < 4 by omega), true_and, false_and, if_neg (show ¬ bn (q.take 4) ≤ 1048576 by omega)]
 rfl
theorem rdS_3x {deep : Bool} {sub : List UInt8 → Rd} {q : List UInt8} (h : 4 ≤ q.length) (hb : ¬ (bn (q.take 4) ≤ 65536 ∧ deep = true)) : rdS deep sub (3 :: q) = (.mk 3 0 [] [], .bad [] KS, q.drop 4) := by
 simp only [rdS, show ((3 : UInt8) = 1) = False from by simp, show ((3 : UInt8) = 2) = False from by simp, if_false, if_neg (show ¬ q.length < 4 by omega), true_and, false_and, if_neg hb]
 rfl
theorem rdS_3w {deep : Bool} {sub : List UInt8 → Rd} {q : List UInt8} (h : 4 ≤ q.length) (hb : bn (q.take 4) ≤ 65536 ∧ deep = true) : rdS deep sub (3 :: q) = (.mk 3 0 [] (lpW sub (q.drop 4) (bn (q.take 4))).1, (lpW sub (q.drop 4) (bn (q.take 4))).2) := by
 simp only [rdS, show ((3 : UInt8) = 1) = False from by simp, show ((3 : UInt8) = 2) = False from by simp, if_false, if_neg (show ¬ q.length < 4 by omega), true_and, false_and, if_pos hb]
theorem rdS_o {deep : Bool} {sub : List UInt8 → Rd} {k : UInt8} {q : List UInt8} (hk : k.toNat ≠ 1 ∧ k.toNat ≠ 2 ∧ k.toNat ≠ 3) (h : 4 ≤ q.length) : rdS deep sub (k :: q) = (.mk k.toNat 0 [] [], .bad [] KS, q.drop 4) := by
 have e : k ≠ 1 := by rintro rfl; exact hk.1 rfl
 have e2 : k ≠ 2 := by rintro rfl; exact hk.2.1 rfl
 have e3 : k ≠ 3 := by rintro rfl; exact hk.2.2 rfl
 simp [rdS, e, e2, e3, show ¬ q.length < 4 from by omega]
theorem lpW_succ {sub : List UInt8 → Rd} {r : List UInt8} {i : Nat} {l : List Wr} {rr r2 : List UInt8} {x : Wr} {xe : Er} (e : lpW sub r i = (l, .ok, rr)) (hx : sub rr = (x, xe, r2)) : lpW sub r (i + 1) = (l ++ [x], xe.within i, r2) := by simp [lpW, e, hx]
theorem lpW_stop {sub : List UInt8 → Rd} {r : List UInt8} {i : Nat} {l : List Wr} {p : List Int} {s rr : List UInt8} (e : lpW sub r i = (l, .bad p s, rr)) : ∀ n, lpW sub r (i + n) = (l, .bad p s, rr)
 | 0 => e
 | n + 1 => by
  have ih := lpW_stop e n
  rw [← Nat.add_assoc, lpW, ih]
theorem lpW_stop' {sub : List UInt8 → Rd} {r : List UInt8} {i N : Nat} {l : List Wr} {p : List Int} {s rr : List UInt8} (e : lpW sub r i = (l, .bad p s, rr)) (h : i ≤ N) : lpW sub r N = (l, .bad p s, rr) := by
 have := lpW_stop e (N - i)
 rwa [show i + (N - i) = N from by omega] at this
theorem lpW_len (sub : List UInt8 → Rd) (r : List UInt8) : ∀ i, (lpW sub r i).1.length ≤ i
 | 0 => by simp [lpW]
 | i + 1 => by
  have ih := lpW_len sub r i
  rcases h : lpW sub r i with ⟨l, e, rr⟩
  rw [h] at ih
  simp only at ih
  cases e with
  | ok => simp [lpW, h]; omega
  | bad p s => simp [lpW, h]; omega
theorem lpW_le {sub : List UInt8 → Rd} (hs : ∀ r, (sub r).2.2.length ≤ r.length) (r : List UInt8) : ∀ i, (lpW sub r i).2.2.length ≤ r.length
 | 0 => by simp [lpW]
 | i + 1 => by
  have ih := lpW_le hs r i
  rcases h : lpW sub r i with ⟨l, e, rr⟩
  rw [h] at ih
  simp only at ih
  cases e with
  | ok => have := hs rr; simp [lpW, h]; omega
  | bad p s => simp [lpW, h]; omega
theorem rdS_le {deep : Bool} {sub : List UInt8 → Rd} (hs : ∀ r, (sub r).2.2.length ≤ r.length) (r : List UInt8) : (rdS deep sub r).2.2.length ≤ r.length := by
 cases r with
 | nil => simp [rdS]
 | cons k q =>
  simp only [rdS]
  have := lpW_le hs (q.drop 4) (bn (q.take 4))
  rw [List.length_drop] at this
  repeat' split
  all_goals (simp only [List.length_cons, List.length_drop] at *; omega)
theorem rdW_le : ∀ d r, (rdW d r).2.2.length ≤ r.length
 | 0, r => rdS_le (fun r => Nat.le_refl _) r
 | d + 1, r => rdS_le (rdW_le d) r
@[push_cast, simp] theorem wr1 : IntKind.i64.wrap 1 = 1 := by decide
@[push_cast, simp] theorem wr2 : IntKind.i64.wrap 2 = 2 := by decide
@[push_cast, simp] theorem wr3 : IntKind.i64.wrap 3 = 3 := by decide
theorem wrap_i64 {x : Nat} (h : x < 18446744073709551616) : IntKind.i64.wrap (x : Int) = i64 x := by
 simp only [IntKind.wrap, IntKind.bits, IntKind.signed, i64]
 by_cases h3 : x < 9223372036854775808
 ·rw [if_pos h3]; simp; omega
 ·rw [if_neg h3]; simp; omega
theorem bn_one (k : UInt8) (r : List UInt8) : bn ((k :: r).take 1) = k.toNat := by simp [bn]
end Go.Ot
