/- Contracts of this program's functions. -/
import Derived.Test.YtppicdhlpdhoiaaDoorSSL0
set_option maxHeartbeats 4000000
set_option maxRecDepth 100000
set_option linter.unusedVariables false
set_option linter.unusedSimpArgs false
namespace Go.Proofs.Tryd
open Go Go.Ot

/-! ### rows of one's own -/
@[push_cast] theorem has_udf (m : Nm) : D.has m udf = false := rfl
section
variable {α : Type} [Inhabited α] {f : α → List T} {k : Nat}
theorem rG (hf : ∀ a, (f a).length = k) {l : List α} {i j : Nat} (h : i < l.length) (hj : j < k) {c : T} (hc : (f (l.getD i default))[j]? = some c) : ((l.flatMap f).map D.t).getD (i * k + j) .bad = .t c := by
 have e : ((l.flatMap f).drop (i * k)) = f (l.getD i default) ++ (l.flatMap f).drop (i * k + k) := rows_drop hf h
 rw [List.getD_eq_getElem?_getD, List.getElem?_map, ← List.getElem?_drop, e, List.getElem?_append_left (by rw [hf]; exact hj), hc]; rfl
theorem rAt (hf : ∀ a, (f a).length = k) {l : List α} {i : Nat} (h : i < l.length) : List.take k (List.drop (i * k) ((l.flatMap f).map D.t)) = (f (l.getD i default)).map D.t := by
 rw [← List.map_drop, ← List.map_take, rows_at hf h]
theorem rSplit {l : List α} {i : Nat} {r' : α} (h : i < l.length) : l.flatMap f = (l.take i).flatMap f ++ (f (l.getD i default) ++ (l.drop (i + 1)).flatMap f) ∧ (l.set i r').flatMap f = (l.take i).flatMap f ++ (f r' ++ (l.drop (i + 1)).flatMap f) := by
 constructor
 ·conv => lhs; rw [← List.take_append_drop i l, List.drop_eq_getElem_cons h, ← getD_eq h]
  rw [List.flatMap_append, List.flatMap_cons]
 ·rw [List.set_eq_take_append_cons_drop, if_pos h, List.flatMap_append, List.flatMap_cons]
theorem rSet (hf : ∀ a, (f a).length = k) {l : List α} {i j : Nat} {r' : α} {c : T} (h : i < l.length) (hj : j < k) (hv : f r' = (f (l.getD i default)).set j c) : ((l.flatMap f).map D.t).set (i * k + j) (.t c) = ((l.set i r').flatMap f).map D.t := by
 have ht : ((l.take i).flatMap f).length = i * k := by rw [rows_len hf, List.length_take, Nat.min_eq_left (by omega)]
 rw [(rSplit (r' := r') h).1, (rSplit (r' := r') h).2, List.map_append, List.map_append, List.set_append_right _ _ (by rw [List.length_map]; omega), List.length_map, ht, Nat.add_sub_cancel_left, List.set_append_left _ _ (by rw [List.length_map, hf]; exact hj), hv, List.map_append, List.map_append, List.map_set]
omit [Inhabited α] in
theorem rAll (hf : ∀ a, (f a).length = k) {l : List α} {n : Nat} (h : l.length = n) : List.take (n * k) ((l.flatMap f).map D.t) = (l.flatMap f).map D.t := List.take_of_length_le (by rw [List.length_map, rows_len hf, h]; exact Nat.le_refl _)
end
theorem flat_rns (l : List Rn) : T.flatL (l.flatMap rnT) = true := by
 induction l with
 | nil => rfl
 | cons a l ih => simp only [List.flatMap_cons, rnT, List.cons_append, List.nil_append, T.flatL, num, T.flat, ih, Bool.and_self]
theorem flat_fts (l : List Ft) : T.flatL (l.flatMap ftT) = true := by
 induction l with
 | nil => rfl
 | cons a l ih => simp only [List.flatMap_cons, ftT, List.cons_append, List.nil_append, T.flatL, num, txt, T.flat, ih, Bool.and_self]
@[push_cast, simp] theorem flat_rns' (l : List Rn) : T.flatL (l.flatMap rnT) = true := flat_rns l
@[push_cast, simp] theorem flat_fts' (l : List Ft) : T.flatL (l.flatMap ftT) = true := flat_fts l
def dtT (d : Int × Int) : List T := [num d.1, num d.2]
theorem dtT_len (d : Int × Int) : (dtT d).length = 2 := rfl
@[push_cast] theorem dts_len (l : List (Int × Int)) : (l.flatMap dtT).length = l.length * 2 := rows_len dtT_len l
@[push_cast] theorem dt_drop {l : List (Int × Int)} {i : Nat} (h : i < l.length) : (l.flatMap dtT).drop (i * 2) = num (l.getD i default).1 :: num (l.getD i default).2 :: (l.flatMap dtT).drop (i * 2 + 2) := rows_drop dtT_len h
def rowRn (l : List Rn) : Ob := ⟨(l.flatMap rnT).map .t, 46, true, true⟩
def rowFt (l : List Ft) : Ob := ⟨(l.flatMap ftT).map .t, 42, true, true⟩
def rowDt (l : List (Int × Int)) : Ob := ⟨(l.flatMap dtT).map .t, 40, true, true⟩
@[push_cast] theorem rowRn_eq (l : List Rn) : rowRn l = ⟨(l.flatMap rnT).map .t, 46, true, true⟩ := rfl
@[push_cast] theorem rowFt_eq (l : List Ft) : rowFt l = ⟨(l.flatMap ftT).map .t, 42, true, true⟩ := rfl
@[push_cast] theorem rowDt_eq (l : List (Int × Int)) : rowDt l = ⟨(l.flatMap dtT).map .t, 40, true, true⟩ := rfl
@[push_cast] theorem rn_g0 {l : List Rn} {i : Nat} (h : i < l.length) : ((l.flatMap rnT).map D.t).getD (i * 3) .bad = .t (num (l.getD i default).dev) := rG (j := 0) rnT_len h (by decide) rfl
@[push_cast] theorem rn_g1 {l : List Rn} {i : Nat} (h : i < l.length) : ((l.flatMap rnT).map D.t).getD (i * 3 + 1) .bad = .t (num (l.getD i default).fr) := rG (j := 1) rnT_len h (by decide) rfl
@[push_cast] theorem rn_g2 {l : List Rn} {i : Nat} (h : i < l.length) : ((l.flatMap rnT).map D.t).getD (i * 3 + 2) .bad = .t (num (l.getD i default).to) := rG (j := 2) rnT_len h (by decide) rfl
theorem rn_set2 {l : List Rn} {i : Nat} {x : Int} (h : i < l.length) : ((l.flatMap rnT).map D.t).set (i * 3 + 2) (.t (num x)) = ((l.set i ⟨(l.getD i default).dev, (l.getD i default).fr, x⟩).flatMap rnT).map D.t := rSet (j := 2) rnT_len h (by decide) rfl
theorem rn_all {l : List Rn} {n : Nat} (h : l.length = n) : List.take (n * 3) ((l.flatMap rnT).map D.t) = (l.flatMap rnT).map D.t := rAll rnT_len h
theorem ft_all {l : List Ft} {n : Nat} (h : l.length = n) : List.take (n * 6) ((l.flatMap ftT).map D.t) = (l.flatMap ftT).map D.t := rAll ftT_len h
theorem dt_all {l : List (Int × Int)} {n : Nat} (h : l.length = n) : List.take (n * 2) ((l.flatMap dtT).map D.t) = (l.flatMap dtT).map D.t := rAll dtT_len h
theorem rn_tall {l : List Rn} {n : Nat} (h : l.length = n) : List.take (n * 3) (l.flatMap rnT) = l.flatMap rnT := List.take_of_length_le (by rw [rns_len, h]; exact Nat.le_refl _)
theorem vw_mid {hp : Nm → Option Ob} {len : Nm → Prop} {l : List Int} {n : Int} {k : Nat} : VwTs hp len ((l.take k).map num ++ num n :: (l.drop k).map num) (((List.map num l).take k).map D.t ++ D.t (num n) :: ((List.map num l).drop k).map D.t) := by
 have e : ((List.map num l).take k).map D.t ++ D.t (num n) :: ((List.map num l).drop k).map D.t = ((l.take k).map num ++ num n :: (l.drop k).map num).map D.t := by simp [List.map_take, List.map_drop]
 rw [e]; exact VwTs_refl hp len _
theorem vw_end {hp : Nm → Option Ob} {len : Nm → Prop} {l : List Int} {n : Int} {k : Nat} (h : k = l.length) : VwTs hp len (l.map num ++ [num n]) (List.take (l.length + 1) ((List.map num l).map D.t ++ D.t (num n) :: ((List.map num l).drop k).map D.t)) := by
 have e : List.take (l.length + 1) ((List.map num l).map D.t ++ D.t (num n) :: ((List.map num l).drop k).map D.t) = (l.map num ++ [num n]).map D.t := by
  rw [List.drop_eq_nil_of_le (by simp; omega), List.take_of_length_le (by simp)]; simp
 rw [e]; exact VwTs_refl hp len _
/-! ### marks -/
theorem ins_at {l : List Int} {n : Int} {k : Nat} (hs : up l) (hk : k ≤ l.length) (lo : ∀ j, j < k → l.getD j 0 < n) (hi : ∀ j, k ≤ j → j < l.length → n ≤ l.getD j 0) : ins n l = if k < l.length ∧ l.getD k 0 = n then l else l.take k ++ n :: l.drop k := by
 have e : ins n (l.take k ++ l.drop k) = l.take k ++ ins n (l.drop k) := ins_app fun x hx => by
  obtain ⟨j, hj, rfl⟩ := List.mem_iff_getElem.1 hx
  rw [List.length_take] at hj
  have := lo j (by omega)
  rw [getD0 (by omega)] at this
  simpa using this
 rw [List.take_append_drop] at e
 rw [e]
 rcases Nat.lt_or_ge k l.length with h | h
 ·have hh := hi k (Nat.le_refl _) h
  rw [getD0 h] at hh ⊢
  rw [List.drop_eq_getElem_cons h]
  split
  ·rename_i h2
   rw [← h2.2, ins_eq, ← List.drop_eq_getElem_cons h, List.take_append_drop]
  ·rename_i h2
   rw [ins_lt (by have : ¬ l[k] = n := fun e => h2 ⟨h, e⟩; omega)]
 ·rw [if_neg (by omega), List.drop_eq_nil_of_le h]; rfl
theorem ins_len (n : Int) : ∀ l : List Int, (ins n l).length ≤ l.length + 1
 | [] => Nat.le_refl _
 | a :: l => by
  have := ins_len n l
  rw [ins]; split
  ·simp; omega
  ·split <;> simp
theorem mkF_len {d : Int} : ∀ (l : List Rn) (m : List Int), (mkF d l m).length ≤ m.length + 2 * l.length
 | [], m => Nat.le_refl _
 | r :: l, m => by
  have h := mkF_len (d := d) l (mkS d m r)
  have h2 : (mkS d m r).length ≤ m.length + 2 := by
   rw [mkS]; split
   ·have := ins_len (r.to + 1) (ins r.fr m); have := ins_len r.fr m; omega
   ·omega
  rw [show mkF d (r :: l) m = mkF d l (mkS d m r) from rfl, List.length_cons]; omega
theorem mkF_yes {d : Int} {l : List Rn} {m : List Int} {i : Nat} {r : Rn} (h : i < l.length) (he : l.getD i default = r) (hd : r.dev = d) : mkF d (l.take (i + 1)) m = ins (r.to + 1) (ins r.fr (mkF d (l.take i) m)) := by rw [mkF_next h, he, mkS, if_pos hd]
theorem mkF_not {d : Int} {l : List Rn} {m : List Int} {i : Nat} {r : Rn} (h : i < l.length) (he : l.getD i default = r) (hd : r.dev ≠ d) : mkF d (l.take (i + 1)) m = mkF d (l.take i) m := by rw [mkF_next h, he, mkS, if_neg hd]
theorem rnP_get {l : List Rn} (hl : ∀ r ∈ l, rnP r) {i : Nat} {r : Rn} (h : i < l.length) (he : l.getD i default = r) : rnP r := by rw [← he, getD_eq h]; exact hl _ (List.getElem_mem _)
theorem outS_s (d : Int) (p : Int → Bool) (m : List Int) (i : Nat) : outS d p m (i + 1) = stepO d p (outS d p m i) (m.getD i 0) (m.getD (i + 1) 0) := rfl
theorem outS_0 (d : Int) (p : Int → Bool) (m : List Int) : outS d p m 0 = [] := rfl
theorem stepO_len (d : Int) (p : Int → Bool) (o : List Rn) (a b : Int) : (stepO d p o a b).length ≤ o.length + 1 := by
 rw [stepO]; split
 ·omega
 ·split <;> simp
theorem outS_len (d : Int) (p : Int → Bool) (m : List Int) : ∀ i, (outS d p m i).length ≤ i
 | 0 => Nat.le_refl _
 | i + 1 => by have := outS_len d p m i; have := stepO_len d p (outS d p m i) (m.getD i 0) (m.getD (i + 1) 0); rw [outS]; omega
theorem mix_len (d : Int) (a b : List Rn) : (mixF d a b).length ≤ 2 * a.length + 2 * b.length := by
 have h1 := outS_len d (both a b d) (mkM d a b) ((mkM d a b).length - 1)
 have h2 := mkF_len (d := d) b (mkF d a [])
 have h3 := mkF_len (d := d) a []
 rw [mixF]; simp only [mkM, List.length_nil] at *; omega
theorem mk_b {a b : List Rn} (pa : ∀ r ∈ a, rnP r) (pb : ∀ r ∈ b, rnP r) {d x : Int} (h : x ∈ mkM d a b) : 1 ≤ x ∧ x ≤ 4503599627370497 := by
 obtain ⟨r, hr, _, h2⟩ := mem_mkM.1 h
 obtain ⟨_, _, h3, h4, h5⟩ := hr.elim (pa r) (pb r)
 omega
theorem mk_get {a b : List Rn} (pa : ∀ r ∈ a, rnP r) (pb : ∀ r ∈ b, rnP r) {d : Int} {i : Nat} (h : i < (mkM d a b).length) : 1 ≤ (mkM d a b).getD i 0 ∧ (mkM d a b).getD i 0 ≤ 4503599627370497 := by
 rw [getD0 h]; exact mk_b pa pb (List.getElem_mem _)

end Go.Proofs.Tryd
