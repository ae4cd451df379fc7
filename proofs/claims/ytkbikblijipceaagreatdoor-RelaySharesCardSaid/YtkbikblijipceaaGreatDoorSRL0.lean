/- Contracts of this program's functions. -/
import Derived.Test.YtkbikblijipceaaGreatDoorSV0
import Derived.Test.YtkbikblijipceaaGreatDoorOtF
import Derived.Test.YtkbikblijipceaaGreatDoorOtE
set_option maxHeartbeats 4000000
set_option maxRecDepth 100000
set_option linter.unusedVariables false
set_option linter.unusedSimpArgs false
namespace Go.Proofs.Tryz
open Go Go.Ot

structure Mb where
 first : Int
 l : List (List UInt8)
 deriving DecidableEq
instance : Inhabited Mb := ⟨⟨0, []⟩⟩
structure Rl where
 boxes : List Mb
 log : List (List UInt8)
 snap : List UInt8
 shares : Int
 last : List Int
def mbT (m : Mb) : List T := [num m.first, lst txt m.l]
theorem mbT_len (m : Mb) : (mbT m).length = 2 := rfl
@[push_cast] theorem mbs_len (l : List Mb) : (l.flatMap mbT).length = l.length * 2 := rows_len mbT_len l
theorem rows_drop {α : Type} [Inhabited α] {f : α → List T} {k : Nat} (hf : ∀ a, (f a).length = k) {l : List α} {i : Nat} (h : i < l.length) : (l.flatMap f).drop (i * k) = f (l.getD i default) ++ (l.flatMap f).drop (i * k + k) := by
 rw [← rows_at hf h, ← List.drop_drop, List.take_append_drop]
@[push_cast] theorem mb_drop {l : List Mb} {i : Nat} (h : i < l.length) : (l.flatMap mbT).drop (i * 2) = num (l.getD i default).first :: lst txt (l.getD i default).l :: (l.flatMap mbT).drop (i * 2 + 2) := rows_drop mbT_len h
theorem getD_eq {α : Type} [Inhabited α] {l : List α} {i : Nat} (h : i < l.length) : l.getD i default = l[i] := by simp [List.getD_eq_getElem?_getD, List.getElem?_eq_getElem h]
def rowMb (l : List Mb) : Ob := ⟨(l.flatMap mbT).map .t, 76, true, true⟩
@[push_cast] theorem rowMb_eq (l : List Mb) : rowMb l = ⟨(l.flatMap mbT).map .t, 76, true, true⟩ := rfl
theorem mb_g {l : List Mb} {i j : Nat} (h : i < l.length) (hj : j < 2) {c : T} (hc : (mbT (l.getD i default))[j]? = some c) : ((l.flatMap mbT).map D.t).getD (i * 2 + j) .bad = .t c := by
 have e : ((l.flatMap mbT).drop (i * 2)) = mbT (l.getD i default) ++ (l.flatMap mbT).drop (i * 2 + 2) := rows_drop mbT_len h
 rw [List.getD_eq_getElem?_getD, List.getElem?_map, ← List.getElem?_drop, e, List.getElem?_append_left (by rw [mbT_len]; exact hj), hc]; rfl
@[push_cast] theorem mb_g1 {l : List Mb} {i : Nat} (h : i < l.length) : ((l.flatMap mbT).map D.t).getD (i * 2 + 1) .bad = .t (lst txt (l.getD i default).l) := mb_g (j := 1) h (by decide) rfl
theorem mb_split {l : List Mb} {i : Nat} {r' : Mb} (h : i < l.length) : l.flatMap mbT = (l.take i).flatMap mbT ++ (mbT (l.getD i default) ++ (l.drop (i + 1)).flatMap mbT) ∧ (l.set i r').flatMap mbT = (l.take i).flatMap mbT ++ (mbT r' ++ (l.drop (i + 1)).flatMap mbT) := by
 constructor
 ·conv => lhs; rw [← List.take_append_drop i l, List.drop_eq_getElem_cons h, ← getD_eq h]
  rw [List.flatMap_append, List.flatMap_cons]
 ·rw [List.set_eq_take_append_cons_drop, if_pos h, List.flatMap_append, List.flatMap_cons]
theorem mb_set {l : List Mb} {i j : Nat} {r' : Mb} {c : T} (h : i < l.length) (hj : j < 2) (hv : mbT r' = (mbT (l.getD i default)).set j c) : ((l.flatMap mbT).map D.t).set (i * 2 + j) (.t c) = ((l.set i r').flatMap mbT).map D.t := by
 have ht : ((l.take i).flatMap mbT).length = i * 2 := by rw [rows_len mbT_len, List.length_take, Nat.min_eq_left (by omega)]
 rw [(mb_split (r' := r') h).1, (mb_split (r' := r') h).2, List.map_append, List.map_append, List.set_append_right _ _ (by rw [List.length_map]; omega), List.length_map, ht, Nat.add_sub_cancel_left, List.set_append_left _ _ (by rw [List.length_map, mbT_len]; exact hj), hv, List.map_append, List.map_append, List.map_set]
theorem mb_same {l : List Mb} {i : Nat} {m : Mb} (h : i < l.length) (he : l.getD i default = m) : ((l.flatMap mbT).map D.t).set (i * 2 + 1) (.t (.sl m.l.length (m.l.map txt))) = (l.flatMap mbT).map D.t := by
 rw [mb_set (r' := m) (c := .sl m.l.length (m.l.map txt)) h (by decide) (by rw [he]; rfl), ← he, getD_eq h, List.set_getElem_self]
theorem mb_all {l : List Mb} {n : Nat} (h : l.length = n) : List.take (n * 2) ((l.flatMap mbT).map D.t) = (l.flatMap mbT).map D.t := List.take_of_length_le (by rw [List.length_map, mbs_len, h]; exact Nat.le_refl _)
def newB (k : Nat) : Nat → List Mb
 | 0 => List.replicate k ⟨0, []⟩
 | i + 1 => (newB k i).set i ⟨1, ((newB k i).getD i default).l⟩
@[push_cast] theorem newB_len (k : Nat) : ∀ i, (newB k i).length = k
 | 0 => List.length_replicate
 | i + 1 => by rw [newB, List.length_set, newB_len k i]
theorem newB_next {k i : Nat} (h : i < k) : (((newB k i).flatMap mbT).map D.t).set (i * 2) (.t (.v (.int .i64 1))) = ((newB k (i + 1)).flatMap mbT).map D.t := by
 have := mb_set (l := newB k i) (i := i) (j := 0) (r' := ⟨1, ((newB k i).getD i default).l⟩) (c := num 1) (by rw [newB_len]; exact h) (by decide) rfl
 rwa [Nat.add_zero] at this
def newR (k : Nat) : Rl := ⟨newB k k, [], [], 0, List.replicate k 0⟩
structure rlS (r : Rl) : Prop where
 b : r.boxes.length ≤ 100
 m : ∀ i, (r.boxes.getD i default).l.length ≤ 1000000
 g : r.log.length ≤ 1000000
 n : r.last.length ≤ 1000000

end Go.Proofs.Tryz
