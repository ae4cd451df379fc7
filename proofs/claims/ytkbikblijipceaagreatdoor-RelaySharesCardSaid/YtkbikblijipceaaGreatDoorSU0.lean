/- Contracts of this program's functions. -/
import Derived.Test.YtkbikblijipceaaGreatDoorST1
import Derived.Test.YtkbikblijipceaaGreatDoorSP2
set_option maxHeartbeats 4000000
set_option maxRecDepth 100000
set_option linter.unusedVariables false
set_option linter.unusedSimpArgs false
namespace Go.Proofs.Tryz
open Go Go.Ot

def rdD2 (w : Wr) (n : Int) : D := .agg [.t (num w.k), .t (num w.n), .t (txt w.s), .t (.sl w.l.length (Wr.cellsL w.l)), .t (num n)]
@[push_cast] theorem rdD2_eq (w : Wr) (n : Int) : rdD2 w n = .agg [.t (num w.k), .t (num w.n), .t (txt w.s), .t (.sl w.l.length (Wr.cellsL w.l)), .t (num n)] := rfl
/-- What the reference's reader returns. -/
def outR (s : List UInt8) : Option (Wr × List UInt8) → D
 | some (w, r) => rdD2 w ((s.length : Int) - r.length)
 | none => rdD2 Wr.z (-1)
theorem outR_some (s : List UInt8) (w : Wr) (r : List UInt8) : outR s (some (w, r)) = rdD2 w ((s.length : Int) - r.length) := rfl
theorem outR_none (s : List UInt8) : outR s none = rdD2 Wr.z (-1) := rfl
theorem bn_len8 (l : List UInt8) (h : l.length ≤ 8) : bn l < 18446744073709551616 := by
 have hlt := bn_lt l
 have hp : 256 ^ l.length ≤ 256 ^ 8 := Nat.pow_le_pow_right (by omega) h
 omega
theorem bn_len4 (l : List UInt8) (h : l.length ≤ 4) : bn l < 4294967296 := by
 have hlt := bn_lt l
 have hp : 256 ^ l.length ≤ 256 ^ 4 := Nat.pow_le_pow_right (by omega) h
 omega
theorem i64_small {x : Nat} (h : x < 4294967296) : i64 x = x := by simp only [i64]; rw [if_pos (by omega)]
theorem rd_step (s : List UInt8) (i : Nat) : rd64 s (i + 1) = sl64 (rd64 s i) 8 ||| (s.getD i 0).toUInt64 := rfl
theorem rd_zero (s : List UInt8) : rd64 s 0 = 0 := rfl
theorem getD_drop (s : List UInt8) (a i : Nat) (d : UInt8) : (s.drop a).getD i d = s.getD (a + i) d := by simp [List.getD_eq_getElem?_getD, List.getElem?_drop]
theorem manyW_len {sub : List UInt8 → Option (Wr × List UInt8)} : ∀ {n : Nat} {r : List UInt8} {l : List Wr} {r' : List UInt8}, manyW sub n r = some (l, r') → l.length = n
 | 0, r, l, r', h => by simp only [manyW, Option.some.injEq, Prod.mk.injEq] at h; rw [← h.1]; rfl
 | n + 1, r, l, r', h => by
  simp only [manyW] at h
  split at h
  ·cases h
  ·split at h
   ·cases h
   ·rename_i h2
    cases h
    simp [manyW_len h2]
theorem manyW_next {sub : List UInt8 → Option (Wr × List UInt8)} {n : Nat} {r : List UInt8} {l : List Wr} {r' : List UInt8} {w : Wr} {r2 : List UInt8} (h : manyW sub n r = some (l, r')) (h2 : sub r' = some (w, r2)) : manyW sub (n + 1) r = some (l ++ [w], r2) := by
 rw [manyW_snoc, h]; simp [h2]
theorem manyW_bad {sub : List UInt8 → Option (Wr × List UInt8)} {n : Nat} {r : List UInt8} {l : List Wr} {r' : List UInt8} (h : manyW sub n r = some (l, r')) (h2 : sub r' = none) : ∀ k, n < k → manyW sub k r = none := by
 intro k hk
 obtain ⟨j, rfl⟩ : ∃ j, k = n + 1 + j := ⟨k - (n + 1), by omega⟩
 clear hk
 induction j with
 | zero => rw [Nat.add_zero, manyW_snoc, h]; simp [h2]
 | succ j ih => rw [← Nat.add_assoc, manyW_snoc, ih]; rfl
theorem manyW_le {sub : List UInt8 → Option (Wr × List UInt8)} (hs : ∀ r w r', sub r = some (w, r') → ∃ p, r = p ++ r') : ∀ {n : Nat} {r : List UInt8} {l : List Wr} {r' : List UInt8}, manyW sub n r = some (l, r') → ∃ p, r = p ++ r'
 | 0, r, l, r', h => by simp only [manyW, Option.some.injEq, Prod.mk.injEq] at h; exact ⟨[], by rw [← h.2]; rfl⟩
 | n + 1, r, l, r', h => by
  simp only [manyW] at h
  split at h
  ·cases h
  ·rename_i h1
   split at h
   ·cases h
   ·rename_i h2
    cases h
    obtain ⟨p, rfl⟩ := hs _ _ _ h1
    obtain ⟨q, rfl⟩ := manyW_le hs h2
    exact ⟨p ++ q, by simp⟩
theorem suf_drop {s r : List UInt8} {a : Nat} (ha : a ≤ s.length) (h : ∃ p, s.drop a = p ++ r) : r.length ≤ s.length - a ∧ s.drop (s.length - r.length) = r := by
 obtain ⟨p, hp⟩ := h
 have hl : s.length - a = p.length + r.length := by have := congrArg List.length hp; simpa using this
 refine ⟨by omega, ?_⟩
 have : s.drop (s.length - r.length) = (s.drop a).drop p.length := by rw [List.drop_drop]; congr 1; omega
 rw [this, hp, List.drop_left']
 rfl
/-! the cases of what is read -/
theorem gS_short {deep : Bool} {sub : List UInt8 → Option (Wr × List UInt8)} {q : List UInt8} (h : q.length < 5) : getS deep sub q = none := by
 cases q with
 | nil => rfl
 | cons k r => simp only [List.length_cons] at h; simp [getS, show ¬ 8 ≤ r.length from by omega, show ¬ 4 ≤ r.length from by omega]
theorem gS_1c {deep : Bool} {sub : List UInt8 → Option (Wr × List UInt8)} {r : List UInt8} (h : r.length < 8) : getS deep sub (1 :: r) = none := by simp [getS, show ¬ 8 ≤ r.length from by omega]
theorem gS_1 {deep : Bool} {sub : List UInt8 → Option (Wr × List UInt8)} {r : List UInt8} (h : 8 ≤ r.length) : getS deep sub (1 :: r) = some (.mk 1 (i64 (bn (r.take 8))) [] [], r.drop 8) := by simp [getS, h]
theorem gS_2 {deep : Bool} {sub : List UInt8 → Option (Wr × List UInt8)} {r : List UInt8} (h : 4 ≤ r.length) : getS deep sub (2 :: r) = if bn (r.take 4) ≤ 1048576 ∧ bn (r.take 4) ≤ (r.drop 4).length then some (.mk 2 0 ((r.drop 4).take (bn (r.take 4))) [], (r.drop 4).drop (bn (r.take 4))) else none := by
 simp only [getS, show ((2 : UInt8) = 1) = False from by simp, if_false, if_pos h, if_true]
theorem gS_3 {deep : Bool} {sub : List UInt8 → Option (Wr × List UInt8)} {r : List UInt8} (h : 4 ≤ r.length) : getS deep sub (3 :: r) = if bn (r.take 4) ≤ 65536 ∧ deep = true then (manyW sub (bn (r.take 4)) (r.drop 4)).map (fun p => (.mk 3 0 [] p.1, p.2)) else none := by
 simp only [getS, show ((3 : UInt8) = 1) = False from by simp, show ((3 : UInt8) = 2) = False from by simp, if_false, if_pos h, if_true]
theorem gS_o {deep : Bool} {sub : List UInt8 → Option (Wr × List UInt8)} {k : UInt8} {r : List UInt8} (h : k ≠ 1 ∧ k ≠ 2 ∧ k ≠ 3) : getS deep sub (k :: r) = none := by simp [getS, h]
theorem getW_suf : ∀ (d : Nat) (r : List UInt8) (w : Wr) (r' : List UInt8), getW d r = some (w, r') → ∃ p, r = p ++ r' := fun d r w r' h => ⟨_, (getW_get d r w r' h).2⟩
theorem manyW_z (sub : List UInt8 → Option (Wr × List UInt8)) (r : List UInt8) : manyW sub 0 r = some ([], r) := rfl
theorem getW_z : getW 0 = getS false (fun _ => none) := rfl
theorem getW_s (d : Nat) : getW (d + 1) = getS true (getW d) := rfl
theorem got_def (s : List UInt8) : got s = match getW 6 s with | some (w, []) => some w | _ => none := rfl
theorem got_1 {s : List UInt8} {w : Wr} (h : getW 6 s = some (w, [])) : got s = some w := by rw [got_def, h]
theorem got_2 {s : List UInt8} {w : Wr} {a : UInt8} {r : List UInt8} (h : getW 6 s = some (w, a :: r)) : got s = none := by rw [got_def, h]
theorem got_3 {s : List UInt8} (h : getW 6 s = none) : got s = none := by rw [got_def, h]

end Go.Proofs.Tryz
