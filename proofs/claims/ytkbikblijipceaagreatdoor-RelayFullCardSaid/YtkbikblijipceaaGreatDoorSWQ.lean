/- Wires, plainly: what may be, what bytes it has, what bytes say; bytes say just what they were put for. -/
import Derived.Test.YtkbikblijipceaaGreatDoorOtD
import Derived.Test.YtkbikblijipceaaGreatDoorOtE
set_option linter.unusedVariables false
set_option linter.unusedSimpArgs false
namespace Go.Ot
def nb : Nat → Nat → List UInt8
 | 0, _ => []
 | k + 1, n => nb k (n / 256) ++ [UInt8.ofNat n]
def bn (l : List UInt8) : Nat := l.foldl (fun a b => a * 256 + b.toNat) 0
theorem nb_len : ∀ k n, (nb k n).length = k
 | 0, _ => rfl
 | k + 1, n => by simp [nb, nb_len k]
theorem cH (l : List UInt8) (b : UInt8) : bn (l ++ [b]) = bn l * 256 + b.toNat := by simp [bn]
theorem bn_nb : ∀ k n, bn (nb k n) = n % 256 ^ k
 | 0, n => by simp [nb, bn, Nat.mod_one]
 | k + 1, n => by
  rw [nb, cH, bn_nb k]
  have h : (UInt8.ofNat n).toNat = n % 256 := by simp
  rw [h, Nat.pow_succ, Nat.mul_comm (256 ^ k) 256, Nat.mod_mul]
  omega
theorem yBk {α : Type} {C : List α → Prop} (h0 : C []) (h1 : ∀ l a, C l → C (l ++ [a])) : ∀ l, C l := by
 intro l
 rw [← List.reverse_reverse l]
 induction l.reverse with
 | nil => exact h0
 | cons a l ih => rw [List.reverse_cons]; exact h1 _ _ ih
theorem bn_lt : ∀ (l : List UInt8), bn l < 256 ^ l.length :=
 yBk (by simp [bn]) fun l b ih => by
  rw [cH, List.length_append, List.length_cons, List.length_nil, Nat.zero_add, Nat.pow_succ]
  have := UInt8.toNat_lt b
  omega
theorem nb_bn : ∀ (l : List UInt8), nb l.length (bn l) = l :=
 yBk rfl fun l b ih => by
  rw [cH, List.length_append, List.length_cons, List.length_nil, nb]
  have h := UInt8.toNat_lt b
  have h1 : (bn l * 256 + b.toNat) / 256 = bn l := by omega
  have h2 : UInt8.ofNat (bn l * 256 + b.toNat) = b := by
   apply UInt8.toNat_inj.1
   rw [UInt8.toNat_ofNat']
   omega
  rw [h1, ih, h2]
theorem yDR {k : Nat} {l : List UInt8} (h : l.length = k) : nb k (bn l) = l := by subst h; exact nb_bn l
def i64 (x : Nat) : Int := if x < 9223372036854775808 then x else (x : Int) - 18446744073709551616
def u64 (n : Int) : Nat := (n % 18446744073709551616).toNat
theorem yIV {n : Int} (h : -9223372036854775808 ≤ n) (h2 : n ≤ 9223372036854775807) : i64 (u64 n) = n := by
 have hu : u64 n = (n % 18446744073709551616).toNat := rfl
 by_cases h3 : u64 n < 9223372036854775808
 ·rw [i64, if_pos h3]; omega
 ·rw [i64, if_neg h3]; omega
theorem yBd (n : Int) : u64 n < 18446744073709551616 := by simp only [u64]; omega
theorem yHP {x : Nat} (h : x < 18446744073709551616) : u64 (i64 x) = x := by
 rw [u64]
 by_cases h3 : x < 9223372036854775808
 ·rw [i64, if_pos h3]; omega
 ·rw [i64, if_neg h3]; omega
theorem i64_ge {x : Nat} (h : x < 18446744073709551616) : -9223372036854775808 ≤ i64 x ∧ i64 x ≤ 9223372036854775807 := by
 simp only [i64]
 by_cases h3 : x < 9223372036854775808
 ·rw [if_pos h3]; omega
 ·rw [if_neg h3]; omega
inductive Wr where
 | mk (k n : Int) (s : List UInt8) (l : List Wr)
def Wr.k : Wr → Int | .mk k _ _ _ => k
def Wr.n : Wr → Int | .mk _ n _ _ => n
def Wr.s : Wr → List UInt8 | .mk _ _ s _ => s
def Wr.l : Wr → List Wr | .mk _ _ _ l => l
def Wr.z : Wr := .mk 0 0 [] []
instance : Inhabited Wr := ⟨Wr.z⟩
mutual
def Wr.sz : Wr → Nat
 | .mk _ _ _ l => 1 + Wr.szL l
def Wr.szL : List Wr → Nat
 | [] => 0
 | w :: l => w.sz + Wr.szL l
end
theorem Wr.sz_pos : ∀ w : Wr, 0 < w.sz
 | .mk _ _ _ l => by simp [Wr.sz]; omega
theorem Wr.sz_mem : ∀ {l : List Wr} {w : Wr}, w ∈ l → w.sz ≤ Wr.szL l
 | a :: l, w, h => by
  rcases List.mem_cons.1 h with rfl | h
  ·simp [Wr.szL]
  ·have := Wr.sz_mem h; simp [Wr.szL]; omega
theorem Wr.sz_sub {v : Wr} {w : Wr} (h : v ∈ w.l) : v.sz < w.sz := by
 cases w with
 | mk k n s l => have := Wr.sz_mem (show v ∈ l from h); simp [Wr.sz]; omega
mutual
def Wr.cells : Wr → List T
 | .mk k n s l => [num k, num n, txt s, .sl l.length (Wr.cellsL l)]
def Wr.cellsL : List Wr → List T
 | [] => []
 | w :: l => Wr.cells w ++ Wr.cellsL l
end
theorem Wr.cells_len (w : Wr) : w.cells.length = 4 := by cases w; rfl
theorem Wr.cellsL_len : ∀ l : List Wr, (Wr.cellsL l).length = l.length * 4
 | [] => rfl
 | w :: l => by simp [Wr.cellsL, Wr.cellsL_len l, Wr.cells_len]; omega
theorem Wr.cellsL_app : ∀ a b : List Wr, Wr.cellsL (a ++ b) = Wr.cellsL a ++ Wr.cellsL b
 | [], b => rfl
 | w :: a, b => by simp [Wr.cellsL, Wr.cellsL_app a b]
theorem Wr.cellsL_drop : ∀ (l : List Wr) (i : Nat), (Wr.cellsL l).drop (i * 4) = Wr.cellsL (l.drop i)
 | l, 0 => by simp
 | [], i + 1 => by simp [Wr.cellsL]
 | w :: l, i + 1 => by
  rw [Wr.cellsL, List.drop_succ_cons, ← Wr.cellsL_drop l i, show (i + 1) * 4 = w.cells.length + i * 4 from by rw [w.cells_len]; omega, List.drop_append, List.drop_eq_nil_of_le (by omega), List.nil_append]
  congr 1
  omega
theorem Wr.cellsL_at {l : List Wr} {i : Nat} (h : i < l.length) : ((Wr.cellsL l).drop (i * 4)).take 4 = (l.getD i default).cells := by
 rw [Wr.cellsL_drop, List.drop_eq_getElem_cons h, Wr.cellsL, show (4 : Nat) = (l[i]).cells.length from ((l[i]).cells_len).symm, List.take_left]
 simp [List.getD_eq_getElem?_getD, List.getElem?_eq_getElem h]
def tB (deep : Bool) (sub : Wr → Bool) : Wr → Bool
 | .mk k n s l => if k = 1 then s.isEmpty && l.isEmpty else if k = 2 then decide (n = 0) && l.isEmpty && decide (s.length ≤ 1048576) else if k = 3 then deep && decide (n = 0) && s.isEmpty && decide (l.length ≤ 65536) && l.all sub else false
def mayW : Nat → Wr → Bool
 | 0 => tB false (fun _ => false)
 | d + 1 => tB true (mayW d)
def rangeS (sub : Wr → Prop) : Wr → Prop
 | .mk k n s l => (-9223372036854775808 ≤ n ∧ n ≤ 9223372036854775807) ∧ ∀ x ∈ l, sub x
def rangeW : Nat → Wr → Prop
 | 0 => rangeS (fun _ => True)
 | d + 1 => rangeS (rangeW d)
def uW (sub : Wr → List UInt8) : Wr → List UInt8
 | .mk k n s l => UInt8.ofInt k :: (if k = 1 then nb 8 (u64 n) else if k = 2 then nb 4 s.length ++ s else nb 4 l.length ++ l.flatMap sub)
def putW : Nat → Wr → List UInt8
 | 0 => uW (fun _ => [])
 | d + 1 => uW (putW d)
def uD (sub : List UInt8 → Option (Wr × List UInt8)) : Nat → List UInt8 → Option (List Wr × List UInt8)
 | 0, r => some ([], r)
 | n + 1, r => match sub r with
  | none => none
  | some (w, r') => match uD sub n r' with
   | none => none
   | some (l, r'') => some (w :: l, r'')
def pJ (deep : Bool) (sub : List UInt8 → Option (Wr × List UInt8)) (r : List UInt8) : Option (Wr × List UInt8) :=
 match r with
 | [] => none
 | k :: r => if k = 1 then (if 8 ≤ r.length then some (.mk 1 (i64 (bn (r.take 8))) [] [], r.drop 8) else none)
  else if 4 ≤ r.length then
   (if k = 2 then (if bn (r.take 4) ≤ 1048576 ∧ bn (r.take 4) ≤ (r.drop 4).length then some (.mk 2 0 ((r.drop 4).take (bn (r.take 4))) [], (r.drop 4).drop (bn (r.take 4))) else none)
   else if k = 3 then (if bn (r.take 4) ≤ 65536 ∧ deep = true then (uD sub (bn (r.take 4)) (r.drop 4)).map (fun p => (.mk 3 0 [] p.1, p.2)) else none)
   else none)
  else none
def getW : Nat → List UInt8 → Option (Wr × List UInt8)
 | 0 => pJ false (fun _ => none)
 | d + 1 => pJ true (getW d)
def got (s : List UInt8) : Option Wr := match getW 6 s with | some (w, []) => some w | _ => none
theorem aO {put : Wr → List UInt8} {sub : List UInt8 → Option (Wr × List UInt8)} : ∀ (l : List Wr) (r : List UInt8), (∀ w ∈ l, ∀ r, sub (put w ++ r) = some (w, r)) → uD sub l.length (l.flatMap put ++ r) = some (l, r)
 | [], r, _ => rfl
 | w :: l, r, h => by
  simp only [List.flatMap_cons, List.append_assoc, List.length_cons, uD]
  rw [h w (by simp)]
  simp only []
  rw [aO l r (fun v hv => h v (by simp [hv]))]
theorem yBR {deep : Bool} {may : Wr → Bool} {rng : Wr → Prop} {put : Wr → List UInt8} {sub : List UInt8 → Option (Wr × List UInt8)} (hs : ∀ w r, may w = true → rng w → sub (put w ++ r) = some (w, r)) (w : Wr) (r : List UInt8) (hm : tB deep may w = true) (hr : rangeS rng w) :
  pJ deep sub (uW put w ++ r) = some (w, r) := by
 obtain ⟨k, n, s, l⟩ := w
 obtain ⟨⟨h1, h2⟩, h3⟩ := hr
 simp only [tB] at hm
 simp only [uW, List.cons_append, pJ]
 by_cases e1 : k = 1
 ·subst e1
  simp only [if_true, Bool.and_eq_true, List.isEmpty_iff] at hm
  obtain ⟨rfl, rfl⟩ := hm
  have ek : UInt8.ofInt 1 = 1 := rfl
  simp only [ek, if_true]
  have hl := nb_len 8 (u64 n)
  rw [if_pos (by simp [hl]), List.take_append_of_le_length (by omega), List.take_of_length_le (by omega), bn_nb, Nat.mod_eq_of_lt (by have := yBd n; omega), yIV h1 h2, List.drop_append_of_le_length (by omega), List.drop_eq_nil_of_le (by omega)]
  rfl
 ·by_cases e2 : k = 2
  ·subst e2
   simp only [if_true, show ((2 : Int) = 1) = False from by simp, if_false, Bool.and_eq_true, List.isEmpty_iff, decide_eq_true_eq] at hm
   obtain ⟨⟨rfl, rfl⟩, hl2⟩ := hm
   have ek : UInt8.ofInt 2 = 2 := rfl
   simp only [ek, show ((2 : UInt8) = 1) = False from by simp, show ((2 : Int) = 1) = False from by simp, if_false, if_true]
   have hl := nb_len 4 s.length
   have ht : (nb 4 s.length ++ s ++ r).take 4 = nb 4 s.length := by rw [List.append_assoc, List.take_append_of_le_length (by omega), List.take_of_length_le (by omega)]
   have hd : (nb 4 s.length ++ s ++ r).drop 4 = s ++ r := by rw [List.append_assoc, List.drop_append_of_le_length (by omega), List.drop_eq_nil_of_le (by omega)]; rfl
   rw [ht, hd, bn_nb, Nat.mod_eq_of_lt (by omega), if_pos (by simp [hl]), if_pos (by simp; omega)]
   simp
  ·by_cases e3 : k = 3
   ·subst e3
    simp only [if_true, show ((3 : Int) = 1) = False from by simp, show ((3 : Int) = 2) = False from by simp, if_false, Bool.and_eq_true, List.isEmpty_iff, decide_eq_true_eq, List.all_eq_true] at hm
    obtain ⟨⟨⟨⟨hdp, rfl⟩, rfl⟩, hl2⟩, hall⟩ := hm
    have ek : UInt8.ofInt 3 = 3 := rfl
    simp only [ek, show ((3 : UInt8) = 1) = False from by simp, show ((3 : UInt8) = 2) = False from by simp, show ((3 : Int) = 1) = False from by simp, show ((3 : Int) = 2) = False from by simp, if_false, if_true]
    have hl := nb_len 4 l.length
    have ht : (nb 4 l.length ++ l.flatMap put ++ r).take 4 = nb 4 l.length := by rw [List.append_assoc, List.take_append_of_le_length (by omega), List.take_of_length_le (by omega)]
    have hd : (nb 4 l.length ++ l.flatMap put ++ r).drop 4 = l.flatMap put ++ r := by rw [List.append_assoc, List.drop_append_of_le_length (by omega), List.drop_eq_nil_of_le (by omega)]; rfl
    rw [ht, hd, bn_nb, Nat.mod_eq_of_lt (by omega), if_pos (by simp [hl]), if_pos ⟨by omega, hdp⟩, aO l r (fun v hv r => hs v r (hall v hv) (h3 v hv))]
    rfl
   ·simp [e1, e2, e3] at hm
theorem getW_put : ∀ (d : Nat) (w : Wr) (r : List UInt8), mayW d w = true → rangeW d w → getW d (putW d w ++ r) = some (w, r)
 | 0, w, r, hm, hr => yBR (fun w r h _ => by cases h) w r hm hr
 | d + 1, w, r, hm, hr => yBR (fun w r h h2 => getW_put d w r h h2) w r hm hr
theorem yI7 {w : Wr} (hm : mayW 6 w = true) (hr : rangeW 6 w) : got (putW 6 w) = some w := by
 have := getW_put 6 w [] hm hr
 rw [List.append_nil] at this
 rw [got, this]
theorem aQ {put : Wr → List UInt8} {sub : List UInt8 → Option (Wr × List UInt8)} {C : Wr → Prop} (hs : ∀ r w r', sub r = some (w, r') → C w ∧ r = put w ++ r') : ∀ (n : Nat) (r : List UInt8) (l : List Wr) (r' : List UInt8), uD sub n r = some (l, r') → (∀ w ∈ l, C w) ∧ l.length = n ∧ r = l.flatMap put ++ r'
 | 0, r, l, r', h => by simp only [uD, Option.some.injEq, Prod.mk.injEq] at h; obtain ⟨rfl, rfl⟩ := h; exact ⟨by simp, rfl, rfl⟩
 | n + 1, r, l, r', h => by
  simp only [uD] at h
  split at h
  ·cases h
  ·rename_i w r1 h1
   split at h
   ·cases h
   ·rename_i l2 r2 h2
    cases h
    obtain ⟨hc, rfl⟩ := hs _ _ _ h1
    obtain ⟨hc2, rfl, rfl⟩ := aQ hs n _ _ _ h2
    exact ⟨fun v hv => by rcases List.mem_cons.1 hv with rfl | hv; exact hc; exact hc2 v hv, rfl, by simp⟩
theorem yBS {deep : Bool} {may : Wr → Bool} {rng : Wr → Prop} {put : Wr → List UInt8} {sub : List UInt8 → Option (Wr × List UInt8)} (hs : ∀ r w r', sub r = some (w, r') → (may w = true ∧ rng w) ∧ r = put w ++ r') (r : List UInt8) (w : Wr) (r' : List UInt8) (h : pJ deep sub r = some (w, r')) :
  (tB deep may w = true ∧ rangeS rng w) ∧ r = uW put w ++ r' := by
 cases r with
 | nil => cases h
 | cons k r =>
  simp only [pJ] at h
  by_cases e1 : k = 1
  ·subst e1
   simp only [if_true] at h
   split at h
   ·rename_i h8
    cases h
    have hb := bn_lt (r.take 8)
    rw [List.length_take, Nat.min_eq_left h8] at hb
    refine ⟨⟨by simp [tB], ⟨i64_ge (by omega), by simp⟩⟩, ?_⟩
    simp only [uW, if_true, List.cons_append]
    rw [yHP (by omega), yDR (by simp [h8]), List.take_append_drop]
    rfl
   ·cases h
  ·rw [if_neg e1] at h
   split at h
   ·rename_i h4
    by_cases e2 : k = 2
    ·subst e2
     rw [if_pos rfl] at h
     split at h
     ·rename_i hb
      cases h
      refine ⟨⟨by simp [tB]; omega, ⟨by omega, by simp⟩⟩, ?_⟩
      simp only [uW, show ((2 : Int) = 1) = False from by simp, if_false, if_true, List.cons_append]
      rw [List.length_take, Nat.min_eq_left hb.2, yDR (by simp [h4]), List.append_assoc, List.take_append_drop, List.take_append_drop]
      rfl
     ·cases h
    ·rw [if_neg e2] at h
     by_cases e3 : k = 3
     ·subst e3
      rw [if_pos rfl] at h
      split at h
      ·rename_i hb
       simp only [Option.map_eq_some_iff] at h
       obtain ⟨⟨l, r2⟩, h1, h2⟩ := h
       cases h2
       obtain ⟨hc, hl, hr⟩ := aQ hs _ _ _ _ h1
       refine ⟨⟨by simp [tB, hb.2]; exact ⟨by omega, fun x hx => (hc x hx).1⟩, ⟨by omega, fun x hx => (hc x hx).2⟩⟩, ?_⟩
       simp only [uW, show ((3 : Int) = 1) = False from by simp, show ((3 : Int) = 2) = False from by simp, if_false, if_true, List.cons_append]
       rw [hl, yDR (by simp [h4]), List.append_assoc, ← hr, List.take_append_drop]
       rfl
      ·cases h
     ·rw [if_neg e3] at h; cases h
   ·cases h
theorem getW_get : ∀ (d : Nat) (r : List UInt8) (w : Wr) (r' : List UInt8), getW d r = some (w, r') → (mayW d w = true ∧ rangeW d w) ∧ r = putW d w ++ r'
 | 0, r, w, r', h => yBS (fun _ _ _ h => by cases h) r w r' h
 | d + 1, r, w, r', h => yBS (fun r w r' h => getW_get d r w r' h) r w r' h
theorem yEq {s : List UInt8} {w : Wr} (h : got s = some w) : mayW 6 w = true ∧ rangeW 6 w ∧ s = putW 6 w := by
 simp only [got] at h
 split at h
 ·rename_i w' hg
  cases h
  obtain ⟨⟨h1, h2⟩, h3⟩ := getW_get 6 s _ _ hg
  exact ⟨h1, h2, by simpa using h3⟩
 ·cases h
end Go.Ot
namespace Go.Ot
inductive Er where
 | ok
 | bad (p : List Int) (s : List UInt8)
def Er.within (i : Int) : Er → Er
 | .ok => .ok
 | .bad p s => .bad (i :: p) s
def CUT : List UInt8 := [99, 117, 116]
def KS : List UInt8 := [107, 105, 110, 100, 44, 32, 111, 114, 32, 115, 105, 122, 101]
def LONGER : List UInt8 := [108, 111, 110, 103, 101, 114]
abbrev Rd := Wr × Er × List UInt8
def lpW (sub : List UInt8 → Rd) (r : List UInt8) : Nat → List Wr × Er × List UInt8
 | 0 => ([], .ok, r)
 | i + 1 => match (lpW sub r i).2.1 with
  | .ok => ((lpW sub r i).1 ++ [(sub (lpW sub r i).2.2).1], (sub (lpW sub r i).2.2).2.1.within i, (sub (lpW sub r i).2.2).2.2)
  | .bad _ _ => lpW sub r i
def rdS (deep : Bool) (sub : List UInt8 → Rd) (r : List UInt8) : Rd :=
 match r with
 | [] => (Wr.z, .bad [] CUT, [])
 | k :: r =>
  if r.length < (if k = 1 then 8 else 4) then (.mk k.toNat 0 [] [], .bad [] CUT, r)
  else if k = 1 then (.mk 1 (i64 (bn (r.take 8))) [] [], .ok, r.drop 8)
  else if k = 2 ∧ bn (r.take 4) ≤ 1048576 then
   (if bn (r.take 4) ≤ (r.drop 4).length then (.mk 2 0 ((r.drop 4).take (bn (r.take 4))) [], .ok, (r.drop 4).drop (bn (r.take 4))) else (.mk 2 0 [] [], .bad [] CUT, r.drop 4))
  else if k = 3 ∧ bn (r.take 4) ≤ 65536 ∧ deep = true then (.mk 3 0 [] (lpW sub (r.drop 4) (bn (r.take 4))).1, (lpW sub (r.drop 4) (bn (r.take 4))).2)
  else (.mk k.toNat 0 [] [], .bad [] KS, r.drop 4)
def rdW : Nat → List UInt8 → Rd
 | 0 => rdS false (fun r => (Wr.z, .bad [] CUT, r))
 | d + 1 => rdS true (rdW d)
def okR {α : Type} : α × Er × List UInt8 → Option (α × List UInt8)
 | (w, .ok, r) => some (w, r)
 | _ => none
theorem sS (sub : List UInt8 → Option (Wr × List UInt8)) : ∀ (n : Nat) (r : List UInt8), uD sub (n + 1) r = (uD sub n r).bind fun p => (sub p.2).map fun q => (p.1 ++ [q.1], q.2)
 | 0, r => by
  simp only [uD, Option.bind_some]
  cases h : sub r with
  | none => simp
  | some q => simp
 | n + 1, r => by
  rw [uD]
  cases h : sub r with
  | none => simp [uD, h]
  | some q =>
   simp only []
   rw [sS sub n q.2]
   rw [uD, h]
   simp only []
   cases h2 : uD sub n q.2 with
   | none => simp
   | some p =>
    simp only [Option.bind_some]
    cases h3 : sub p.2 with
    | none => simp
    | some z => simp
theorem yBK (sub : List UInt8 → Rd) (r : List UInt8) : ∀ n, okR (lpW sub r n) = uD (fun r => okR (sub r)) n r
 | 0 => rfl
 | n + 1 => by
  rw [sS, ← yBK sub r n, lpW]
  rcases h : lpW sub r n with ⟨l, e, r'⟩
  cases e with
  | ok =>
   rcases h2 : sub r' with ⟨w, e2, r2⟩
   cases e2 <;> simp [okR, Er.within, h2]
  | bad p s => simp [okR]
theorem yDA (deep : Bool) (sub : List UInt8 → Rd) (r : List UInt8) : okR (rdS deep sub r) = pJ deep (fun r => okR (sub r)) r := by
 cases r with
 | nil => rfl
 | cons k r =>
  simp only [rdS, pJ]
  by_cases e1 : k = 1
  ·subst e1
   simp only [if_true]
   by_cases h8 : r.length < 8
   ·rw [if_pos h8, if_neg (by omega)]; rfl
   ·rw [if_neg h8, if_pos (by omega)]; rfl
  ·rw [if_neg e1, if_neg e1, if_neg e1]
   by_cases h4 : r.length < 4
   ·rw [if_pos h4, if_neg (by omega)]; rfl
   ·rw [if_neg h4, if_pos (show 4 ≤ r.length by omega)]
    by_cases e2 : k = 2
    ·subst e2
     simp only [true_and, if_true, show ((2 : UInt8) = 3) = False from by simp, false_and, if_false]
     by_cases hb : bn (r.take 4) ≤ 1048576
     ·rw [if_pos hb]
      by_cases hc : bn (r.take 4) ≤ (r.drop 4).length
      ·rw [if_pos hc, if_pos ⟨hb, hc⟩]; rfl
      ·rw [if_neg hc, if_neg (fun h => hc h.2)]; rfl
     ·rw [if_neg hb, if_neg (fun h => hb h.1)]; rfl
    ·simp only [e2, false_and, if_false]
     by_cases e3 : k = 3
     ·subst e3
      simp only [true_and, if_true]
      by_cases hb : bn (r.take 4) ≤ 65536 ∧ deep = true
      ·rw [if_pos hb, if_pos hb, ← yBK]
       rcases lpW sub (r.drop 4) (bn (r.take 4)) with ⟨l, e, r'⟩
       cases e <;> rfl
      ·rw [if_neg hb, if_neg hb]; rfl
     ·simp only [e3, false_and, if_false]; rfl
theorem rdW_get : ∀ (d : Nat) (r : List UInt8), okR (rdW d r) = getW d r
 | 0, r => yDA false _ r
 | d + 1, r => by
  rw [rdW, yDA, getW]
  congr 1
  funext r
  exact rdW_get d r
end Go.Ot

namespace Go.Ot
theorem bdec_pos {p : Prop} [Decidable p] (h : p) : decide p = true := decide_eq_true h
theorem bdec_neg {p : Prop} [Decidable p] (h : ¬ p) : decide p = false := decide_eq_false h
attribute [push_cast] bdec_pos bdec_neg
theorem Wr.cells_eq (w : Wr) : w.cells = [num w.k, num w.n, txt w.s, .sl w.l.length (Wr.cellsL w.l)] := by cases w; rfl
@[push_cast] theorem Wr.k_mk (k n : Int) (s : List UInt8) (l : List Wr) : (Wr.mk k n s l).k = k := rfl
@[push_cast] theorem Wr.n_mk (k n : Int) (s : List UInt8) (l : List Wr) : (Wr.mk k n s l).n = n := rfl
@[push_cast] theorem Wr.s_mk (k n : Int) (s : List UInt8) (l : List Wr) : (Wr.mk k n s l).s = s := rfl
@[push_cast] theorem Wr.l_mk (k n : Int) (s : List UInt8) (l : List Wr) : (Wr.mk k n s l).l = l := rfl
@[push_cast] theorem Wr.z_eq : Wr.z = .mk 0 0 [] [] := rfl
def wA (w : Wr) : D := .agg [.t (num w.k), .t (num w.n), .t (txt w.s), .t (.sl w.l.length (Wr.cellsL w.l))]
def wC (w : Wr) : List D := [.t (num w.k), .t (num w.n), .t (txt w.s), .t (.sl w.l.length (Wr.cellsL w.l))]
def wS (l : List Wr) : D := .t (.sl l.length (Wr.cellsL l))
@[push_cast] theorem wA_eq (w : Wr) : wA w = .agg [.t (num w.k), .t (num w.n), .t (txt w.s), .t (.sl w.l.length (Wr.cellsL w.l))] := rfl
theorem yCV (w : Wr) : Wr.cellsL [w] = [num w.k, num w.n, txt w.s, .sl w.l.length (Wr.cellsL w.l)] := by rw [← Wr.cells_eq]; simp [Wr.cellsL]
@[push_cast] theorem yJl (l : List Wr) : (Wr.cellsL l).length = l.length * 4 := Wr.cellsL_len l
@[push_cast] theorem cells_at {l : List Wr} {i : Nat} (h : i < l.length) : (((Wr.cellsL l).drop (i * 4)).map D.t).take 4 = wC (l.getD i default) := by
 rw [← List.map_take, Wr.cellsL_at h, Wr.cells_eq]; rfl
@[push_cast] theorem cells_at2 {l : List Wr} {i : Nat} (h : i < l.length) : (((Wr.cellsL l).drop (i * 4)).take 4).map D.t = wC (l.getD i default) := by
 rw [Wr.cellsL_at h, Wr.cells_eq]; rfl
@[push_cast] theorem wS_eq (l : List Wr) : wS l = .t (.sl l.length (Wr.cellsL l)) := rfl
@[push_cast, simp] theorem Vw_fn {src : Nm → Option Nm} {hp : Nm → Option Ob} {len : Nm → Prop} {f g : FuncId} {cs ds : List D} : Vw src hp len (.fn f cs) (.fn g ds) ↔ g = f ∧ VwL src hp len cs ds := by
 constructor
 ·rintro ⟨es, h, h2⟩; cases h; exact ⟨rfl, h2⟩
 ·rintro ⟨rfl, h⟩; exact ⟨ds, rfl, h⟩
@[push_cast] theorem wC_eq (w : Wr) : wC w = [.t (num w.k), .t (num w.n), .t (txt w.s), .t (.sl w.l.length (Wr.cellsL w.l))] := rfl
theorem uZ (l : List Wr) (w : Wr) : (Wr.cellsL (l ++ [w])).map D.t = (Wr.cellsL l).map D.t ++ wC w := by
 rw [Wr.cellsL_app, yCV, List.map_append]; rfl
def yC3 (s : List UInt8) : Nat → UInt64
 | 0 => 0
 | i + 1 => sl64 (yC3 s i) 8 ||| (s.getD i 0).toUInt64
theorem or_add (a b : Nat) (h : b < 256) : a * 256 ||| b = a * 256 + b := by
 rw [show a * 256 = a <<< 8 from by rw [Nat.shiftLeft_eq]]
 rw [Nat.shiftLeft_add_eq_or_of_lt (by omega)]
theorem yAG (s : List UInt8) : ∀ i, i ≤ s.length → i ≤ 8 → (yC3 s i).toNat = bn (s.take i)
 | 0, _, _ => by simp [yC3, bn]
 | i + 1, h, h8 => by
  have ih := yAG s i (by omega) (by omega)
  have hlt := bn_lt (s.take i)
  rw [List.length_take, Nat.min_eq_left (by omega)] at hlt
  have hp : 256 ^ i ≤ 256 ^ 7 := Nat.pow_le_pow_right (by omega) (by omega)
  have e : s.take (i + 1) = s.take i ++ [s.getD i 0] := by
   rw [List.take_add_one, List.getElem?_eq_getElem (by omega)]
   simp [List.getD_eq_getElem?_getD, List.getElem?_eq_getElem (show i < s.length by omega)]
  have hb := UInt8.toNat_lt (s.getD i 0)
  rw [e, cH, ← ih, yC3, UInt64.toNat_or, sl64, UInt64.toNat_ofNat', ih, Nat.shiftLeft_eq, Nat.mod_eq_of_lt (by omega)]
  have : (s.getD i 0).toUInt64.toNat = (s.getD i 0).toNat := by simp
  rw [this]
  exact or_add _ _ (by omega)
theorem bn_le (s : List UInt8) (n : Nat) (h : n ≤ 8) : bn (s.take n) < 18446744073709551616 := by
 have hlt := bn_lt (s.take n)
 have hp : 256 ^ (s.take n).length ≤ 256 ^ 8 := Nat.pow_le_pow_right (by omega) (by rw [List.length_take]; omega)
 omega
theorem bn4 (s : List UInt8) : bn (s.take 4) < 4294967296 := by
 have hlt := bn_lt (s.take 4)
 have hp : 256 ^ (s.take 4).length ≤ 256 ^ 4 := Nat.pow_le_pow_right (by omega) (by rw [List.length_take]; omega)
 omega
@[push_cast] theorem cellsL_nil : Wr.cellsL [] = [] := rfl
theorem rdS_Z (deep : Bool) (sub : List UInt8 → Rd) : rdS deep sub [] = (Wr.z, .bad [] CUT, []) := rfl
theorem rdS_1c {deep : Bool} {sub : List UInt8 → Rd} {q : List UInt8} (h : q.length < 8) : rdS deep sub (1 :: q) = (.mk 1 0 [] [], .bad [] CUT, q) := by simp [rdS, h]
theorem rdS_1 {deep : Bool} {sub : List UInt8 → Rd} {q : List UInt8} (h : 8 ≤ q.length) : rdS deep sub (1 :: q) = (.mk 1 (i64 (bn (q.take 8))) [] [], .ok, q.drop 8) := by simp [rdS, show ¬ q.length < 8 from by omega]
theorem yIq {deep : Bool} {sub : List UInt8 → Rd} {k : UInt8} {q : List UInt8} (hk : k.toNat ≠ 1) (h : q.length < 4) : rdS deep sub (k :: q) = (.mk k.toNat 0 [] [], .bad [] CUT, q) := by
 have e : k ≠ 1 := by rintro rfl; exact hk rfl
 simp [rdS, e, h]
theorem rdS_2t {deep : Bool} {sub : List UInt8 → Rd} {q : List UInt8} (h : 4 ≤ q.length) (hb : bn (q.take 4) ≤ 1048576) (hc : bn (q.take 4) ≤ (q.drop 4).length) : rdS deep sub (2 :: q) = (.mk 2 0 ((q.drop 4).take (bn (q.take 4))) [], .ok, (q.drop 4).drop (bn (q.take 4))) := by
 simp only [rdS, show ((2 : UInt8) = 1) = False from by simp, if_false, if_neg (show ¬ q.length < 4 by omega), true_and, if_pos hb, if_pos hc]
theorem rdS_2u {deep : Bool} {sub : List UInt8 → Rd} {q : List UInt8} (h : 4 ≤ q.length) (hb : bn (q.take 4) ≤ 1048576) (hc : (q.drop 4).length < bn (q.take 4)) : rdS deep sub (2 :: q) = (.mk 2 0 [] [], .bad [] CUT, q.drop 4) := by
 simp only [rdS, show ((2 : UInt8) = 1) = False from by simp, if_false, if_neg (show ¬ q.length < 4 by omega), true_and, if_pos hb, if_neg (show ¬ bn (q.take 4) ≤ (q.drop 4).length by omega)]
theorem rdS_2g {deep : Bool} {sub : List UInt8 → Rd} {q : List UInt8} (h : 4 ≤ q.length) (hb : 1048576 < bn (q.take 4)) : rdS deep sub (2 :: q) = (.mk 2 0 [] [], .bad [] KS, q.drop 4) := by
 simp only [rdS, show ((2 : UInt8) = 1) = False from by simp, show ((2 : UInt8) = 3) = False from by simp, if_false, if_neg (show ¬ q.length < 4 by omega), true_and, false_and, if_neg (show ¬ bn (q.take 4) ≤ 1048576 by omega)]
 rfl
theorem yHn {deep : Bool} {sub : List UInt8 → Rd} {q : List UInt8} (h : 4 ≤ q.length) (hb : ¬ (bn (q.take 4) ≤ 65536 ∧ deep = true)) : rdS deep sub (3 :: q) = (.mk 3 0 [] [], .bad [] KS, q.drop 4) := by
 simp only [rdS, show ((3 : UInt8) = 1) = False from by simp, show ((3 : UInt8) = 2) = False from by simp, if_false, if_neg (show ¬ q.length < 4 by omega), true_and, false_and, if_neg hb]
 rfl
theorem yHo {deep : Bool} {sub : List UInt8 → Rd} {q : List UInt8} (h : 4 ≤ q.length) (hb : bn (q.take 4) ≤ 65536 ∧ deep = true) : rdS deep sub (3 :: q) = (.mk 3 0 [] (lpW sub (q.drop 4) (bn (q.take 4))).1, (lpW sub (q.drop 4) (bn (q.take 4))).2) := by
 simp only [rdS, show ((3 : UInt8) = 1) = False from by simp, show ((3 : UInt8) = 2) = False from by simp, if_false, if_neg (show ¬ q.length < 4 by omega), true_and, false_and, if_pos hb]
theorem rdS_o {deep : Bool} {sub : List UInt8 → Rd} {k : UInt8} {q : List UInt8} (hk : k.toNat ≠ 1 ∧ k.toNat ≠ 2 ∧ k.toNat ≠ 3) (h : 4 ≤ q.length) : rdS deep sub (k :: q) = (.mk k.toNat 0 [] [], .bad [] KS, q.drop 4) := by
 have e : k ≠ 1 := by rintro rfl; exact hk.1 rfl
 have e2 : k ≠ 2 := by rintro rfl; exact hk.2.1 rfl
 have e3 : k ≠ 3 := by rintro rfl; exact hk.2.2 rfl
 simp [rdS, e, e2, e3, show ¬ q.length < 4 from by omega]
theorem yBI {sub : List UInt8 → Rd} {r : List UInt8} {i : Nat} {l : List Wr} {rr r2 : List UInt8} {x : Wr} {xe : Er} (e : lpW sub r i = (l, .ok, rr)) (hx : sub rr = (x, xe, r2)) : lpW sub r (i + 1) = (l ++ [x], xe.within i, r2) := by simp [lpW, e, hx]
theorem yBJ {sub : List UInt8 → Rd} {r : List UInt8} {i : Nat} {l : List Wr} {p : List Int} {s rr : List UInt8} (e : lpW sub r i = (l, .bad p s, rr)) : ∀ n, lpW sub r (i + n) = (l, .bad p s, rr)
 | 0 => e
 | n + 1 => by
  have ih := yBJ e n
  rw [← Nat.add_assoc, lpW, ih]
theorem yD3 {sub : List UInt8 → Rd} {r : List UInt8} {i N : Nat} {l : List Wr} {p : List Int} {s rr : List UInt8} (e : lpW sub r i = (l, .bad p s, rr)) (h : i ≤ N) : lpW sub r N = (l, .bad p s, rr) := by
 have := yBJ e (N - i)
 rwa [show i + (N - i) = N from by omega] at this
theorem yD4 (sub : List UInt8 → Rd) (r : List UInt8) : ∀ i, (lpW sub r i).1.length ≤ i
 | 0 => by simp [lpW]
 | i + 1 => by
  have ih := yD4 sub r i
  rcases h : lpW sub r i with ⟨l, e, rr⟩
  rw [h] at ih
  simp only at ih
  cases e with
  | ok => simp [lpW, h]; omega
  | bad p s => simp [lpW, h]; omega
theorem yBL {sub : List UInt8 → Rd} (hs : ∀ r, (sub r).2.2.length ≤ r.length) (r : List UInt8) : ∀ i, (lpW sub r i).2.2.length ≤ r.length
 | 0 => by simp [lpW]
 | i + 1 => by
  have ih := yBL hs r i
  rcases h : lpW sub r i with ⟨l, e, rr⟩
  rw [h] at ih
  simp only at ih
  cases e with
  | ok => have := hs rr; simp [lpW, h]; omega
  | bad p s => simp [lpW, h]; omega
theorem yHm {deep : Bool} {sub : List UInt8 → Rd} (hs : ∀ r, (sub r).2.2.length ≤ r.length) (r : List UInt8) : (rdS deep sub r).2.2.length ≤ r.length := by
 cases r with
 | nil => simp [rdS]
 | cons k q =>
  simp only [rdS]
  have := yBL hs (q.drop 4) (bn (q.take 4))
  rw [List.length_drop] at this
  repeat' split
  all_goals (simp only [List.length_cons, List.length_drop] at *; omega)
theorem rdW_le : ∀ d r, (rdW d r).2.2.length ≤ r.length
 | 0, r => yHm (fun r => Nat.le_refl _) r
 | d + 1, r => yHm (rdW_le d) r
@[push_cast, simp] theorem wr1 : IntKind.i64.wrap 1 = 1 := by decide
@[push_cast, simp] theorem wr2 : IntKind.i64.wrap 2 = 2 := by decide
@[push_cast, simp] theorem wr3 : IntKind.i64.wrap 3 = 3 := by decide
theorem wrap_i64 {x : Nat} (h : x < 18446744073709551616) : IntKind.i64.wrap (x : Int) = i64 x := by
 simp only [IntKind.wrap, IntKind.bits, IntKind.signed, i64]
 by_cases h3 : x < 9223372036854775808
 ·rw [if_pos h3]; simp; omega
 ·rw [if_neg h3]; simp; omega
theorem yB0 (k : UInt8) (r : List UInt8) : bn ((k :: r).take 1) = k.toNat := by simp [bn]
end Go.Ot
