/- Contracts of this program's functions. -/
import Derived.Test.YtkbikblijipceaaGreatDoorST1
import Derived.Test.YtkbikblijipceaaGreatDoorSP2
set_option maxHeartbeats 4000000
set_option maxRecDepth 100000
set_option linter.unusedVariables false
set_option linter.unusedSimpArgs false
namespace Go.Proofs.Tryz
open Go Go.Ot
def mN (w : Wr) (n : Int) : D := .agg [.t (num w.k), .t (num w.n), .t (txt w.s), .t (.sl w.l.length (Wr.cellsL w.l)), .t (num n)]
@[push_cast] theorem rdD2_eq (w : Wr) (n : Int) : mN w n = .agg [.t (num w.k), .t (num w.n), .t (txt w.s), .t (.sl w.l.length (Wr.cellsL w.l)), .t (num n)] := rfl
def yAk (s : List UInt8) : Option (Wr × List UInt8) → D
 | some (w, r) => mN w ((s.length : Int) - r.length)
 | none => mN Wr.z (-1)
theorem pH (s : List UInt8) (w : Wr) (r : List UInt8) : yAk s (some (w, r)) = mN w ((s.length : Int) - r.length) := rfl
theorem aE (s : List UInt8) : yAk s none = mN Wr.z (-1) := rfl
theorem yJm (l : List UInt8) (h : l.length ≤ 8) : bn l < 18446744073709551616 := by
 have hlt := bn_lt l
 have hp : 256 ^ l.length ≤ 256 ^ 8 := Nat.pow_le_pow_right (by omega) h
 omega
theorem lP (l : List UInt8) (h : l.length ≤ 4) : bn l < 4294967296 := by
 have hlt := bn_lt l
 have hp : 256 ^ l.length ≤ 256 ^ 4 := Nat.pow_le_pow_right (by omega) h
 omega
theorem hJ {x : Nat} (h : x < 4294967296) : i64 x = x := by simp only [i64]; rw [if_pos (by omega)]
theorem yIp (s : List UInt8) (i : Nat) : yC3 s (i + 1) = sl64 (yC3 s i) 8 ||| (s.getD i 0).toUInt64 := rfl
theorem yIo (s : List UInt8) : yC3 s 0 = 0 := rfl
theorem getD_drop (s : List UInt8) (a i : Nat) (d : UInt8) : (s.drop a).getD i d = s.getD (a + i) d := by simp [List.getD_eq_getElem?_getD, List.getElem?_drop]
theorem aP {sub : List UInt8 → Option (Wr × List UInt8)} : ∀ {n : Nat} {r : List UInt8} {l : List Wr} {r' : List UInt8}, uD sub n r = some (l, r') → l.length = n
 | 0, r, l, r', h => by simp only [uD, Option.some.injEq, Prod.mk.injEq] at h; rw [← h.1]; rfl
 | n + 1, r, l, r', h => by
  simp only [uD] at h
  split at h
  ·cases h
  ·split at h
   ·cases h
   ·rename_i h2
    cases h
    simp [aP h2]
theorem eD {sub : List UInt8 → Option (Wr × List UInt8)} {n : Nat} {r : List UInt8} {l : List Wr} {r' : List UInt8} {w : Wr} {r2 : List UInt8} (h : uD sub n r = some (l, r')) (h2 : sub r' = some (w, r2)) : uD sub (n + 1) r = some (l ++ [w], r2) := by
 rw [sS, h]; simp [h2]
theorem yD2 {sub : List UInt8 → Option (Wr × List UInt8)} {n : Nat} {r : List UInt8} {l : List Wr} {r' : List UInt8} (h : uD sub n r = some (l, r')) (h2 : sub r' = none) : ∀ k, n < k → uD sub k r = none := by
 intro k hk
 obtain ⟨j, rfl⟩ : ∃ j, k = n + 1 + j := ⟨k - (n + 1), by omega⟩
 clear hk
 induction j with
 | zero => rw [Nat.add_zero, sS, h]; simp [h2]
 | succ j ih => rw [← Nat.add_assoc, sS, ih]; rfl
theorem yBH {sub : List UInt8 → Option (Wr × List UInt8)} (hs : ∀ r w r', sub r = some (w, r') → ∃ p, r = p ++ r') : ∀ {n : Nat} {r : List UInt8} {l : List Wr} {r' : List UInt8}, uD sub n r = some (l, r') → ∃ p, r = p ++ r'
 | 0, r, l, r', h => by simp only [uD, Option.some.injEq, Prod.mk.injEq] at h; exact ⟨[], by rw [← h.2]; rfl⟩
 | n + 1, r, l, r', h => by
  simp only [uD] at h
  split at h
  ·cases h
  ·rename_i h1
   split at h
   ·cases h
   ·rename_i h2
    cases h
    obtain ⟨p, rfl⟩ := hs _ _ _ h1
    obtain ⟨q, rfl⟩ := yBH hs h2
    exact ⟨p ++ q, by simp⟩
theorem yFy {s r : List UInt8} {a : Nat} (ha : a ≤ s.length) (h : ∃ p, s.drop a = p ++ r) : r.length ≤ s.length - a ∧ s.drop (s.length - r.length) = r := by
 obtain ⟨p, hp⟩ := h
 have hl : s.length - a = p.length + r.length := by have := congrArg List.length hp; simpa using this
 refine ⟨by omega, ?_⟩
 have : s.drop (s.length - r.length) = (s.drop a).drop p.length := by rw [List.drop_drop]; congr 1; omega
 rw [this, hp, List.drop_left']
 rfl
theorem yGr {deep : Bool} {sub : List UInt8 → Option (Wr × List UInt8)} {q : List UInt8} (h : q.length < 5) : pJ deep sub q = none := by
 cases q with
 | nil => rfl
 | cons k r => simp only [List.length_cons] at h; simp [pJ, show ¬ 8 ≤ r.length from by omega, show ¬ 4 ≤ r.length from by omega]
theorem gS_1c {deep : Bool} {sub : List UInt8 → Option (Wr × List UInt8)} {r : List UInt8} (h : r.length < 8) : pJ deep sub (1 :: r) = none := by simp [pJ, show ¬ 8 ≤ r.length from by omega]
theorem gS_1 {deep : Bool} {sub : List UInt8 → Option (Wr × List UInt8)} {r : List UInt8} (h : 8 ≤ r.length) : pJ deep sub (1 :: r) = some (.mk 1 (i64 (bn (r.take 8))) [] [], r.drop 8) := by simp [pJ, h]
theorem gS_2 {deep : Bool} {sub : List UInt8 → Option (Wr × List UInt8)} {r : List UInt8} (h : 4 ≤ r.length) : pJ deep sub (2 :: r) = if bn (r.take 4) ≤ 1048576 ∧ bn (r.take 4) ≤ (r.drop 4).length then some (.mk 2 0 ((r.drop 4).take (bn (r.take 4))) [], (r.drop 4).drop (bn (r.take 4))) else none := by
 simp only [pJ, show ((2 : UInt8) = 1) = False from by simp, if_false, if_pos h, if_true]
theorem gS_3 {deep : Bool} {sub : List UInt8 → Option (Wr × List UInt8)} {r : List UInt8} (h : 4 ≤ r.length) : pJ deep sub (3 :: r) = if bn (r.take 4) ≤ 65536 ∧ deep = true then (uD sub (bn (r.take 4)) (r.drop 4)).map (fun p => (.mk 3 0 [] p.1, p.2)) else none := by
 simp only [pJ, show ((3 : UInt8) = 1) = False from by simp, show ((3 : UInt8) = 2) = False from by simp, if_false, if_pos h, if_true]
theorem gS_o {deep : Bool} {sub : List UInt8 → Option (Wr × List UInt8)} {k : UInt8} {r : List UInt8} (h : k ≠ 1 ∧ k ≠ 2 ∧ k ≠ 3) : pJ deep sub (k :: r) = none := by simp [pJ, h]
theorem getW_suf : ∀ (d : Nat) (r : List UInt8) (w : Wr) (r' : List UInt8), getW d r = some (w, r') → ∃ p, r = p ++ r' := fun d r w r' h => ⟨_, (getW_get d r w r' h).2⟩
theorem yD1 (sub : List UInt8 → Option (Wr × List UInt8)) (r : List UInt8) : uD sub 0 r = some ([], r) := rfl
theorem getW_z : getW 0 = pJ false (fun _ => none) := rfl
theorem getW_s (d : Nat) : getW (d + 1) = pJ true (getW d) := rfl
theorem dV (s : List UInt8) : got s = match getW 6 s with | some (w, []) => some w | _ => none := rfl
theorem got_1 {s : List UInt8} {w : Wr} (h : getW 6 s = some (w, [])) : got s = some w := by rw [dV, h]
theorem got_2 {s : List UInt8} {w : Wr} {a : UInt8} {r : List UInt8} (h : getW 6 s = some (w, a :: r)) : got s = none := by rw [dV, h]
theorem got_3 {s : List UInt8} (h : getW 6 s = none) : got s = none := by rw [dV, h]
end Go.Proofs.Tryz

namespace Go.Proofs.Tryz
open Go Go.Ot
attribute [local simp] num bol txt w8 w16 w32 w64 lst cls xZ xR List.take_of_length_le
attribute [local irreducible] wpK wpS uE wH wV wN wZ xD Le rdS lpW rdW got tB mayW ixF uW putW nb nbS u64 fmT qB
theorem lU (Γ : Gl) (n : Int) : Go.Ot.Good Γ prog 123 [.t (num n)] [] (.t (txt (nb 8 (u64 n)))) [] [] := by
 refine yR F.mix func123 (by rfl) ntmps123 ?_
 refine yD (yA rfl ?_)
 refine yF ?_
 refine yE (yB (yC (yD (yA rfl ?_))))
 refine yF ?_
 refine yF (hs := by (simp only [push_cast, wrap_u64 n] <;> rfl)) ?_
 refine yF ?_
 refine yE (yB (yC (yD (yA rfl ?_))))
 refine yF ?_
 refine yE (yB (yC (yD (yD (yA rfl ?_)))))
 refine yF ?_
 refine yE (yB (yC (yH ?_)))
 refine xN (fun sl L (j : Nat) => ⟨setAll (setBad sl [0, 6, 7, 8, 9, 10, 11, 12, 13, 14, 15, 16, 17, 18, 19, 20, 21]) [(4, .msl (.n 9) 0 (nbS 8 (u64 n) j).length 1), (5, .t (num j))], Go.Ot.look (vD (.n 9) (xZ 5 w8 (nbS 8 (u64 n) j)) L)⟩) (fun j => j ≤ 8) (fun j => 8 - j) (0) (wF ?_) ?_ ?_
 ·refine wL [] ?_ ?_ ?_ <;> simp [yBB] <;> (try omega)
 ·(first | omega | simp)
 ·intro j hj
  have hnl := yDS 8 (u64 n) j
  have hul := yBd n
  refine vE ?_
  refine yD (yD (yA rfl ?_))
  iterate 2 refine yF ?_
  refine yE (yB (yC ?_))
  refine vL (fun hc0 => ?_) (fun hc0 => ?_)
  ·(try simp only [zB] at hc0)
   refine yL (yC (yD (yH (yA rfl ?_))))
   iterate 7 refine yF ?_
   refine pQ ?_
   rw [show min ((56 : Int) - 8 * (j : Int)).toNat 64 = 8 * (8 - 1 - j) from by omega, yBZ]
   iterate 3 refine yF ?_
   refine yE (yB (yS (yC (yA rfl ?_))))
   iterate 3 refine yF ?_
   refine yE (yB ?_)
   refine xE (j + 1) (wF ?_) ?_ ?_
   ·refine wL [(.n 9, .n 9)] ?_ ?_ ?_ <;> simp [-List.map_set, -List.map_replicate, -List.reduceReplicate, -List.map_map, -List.map_drop, -List.map_take, dO, List.append_assoc] <;> (try omega)
   ·(first | omega | (simp_all <;> omega))
   ·(first | omega | (simp only []; omega))
  ·(try simp only [zB] at hc0)
   refine xQ (yM (yN (yK (yC (yD (yA rfl ?_))))))
   obtain rfl : j = 8 := by omega
   have hfu := nbS_full 8 (u64 n)
   refine yF ?_
   first | refine sV ?_ | refine uO ?_
   refine yF ?_
   refine yE (yB (yC (yO ?_)))
   refine ⟨.inr rfl, yP [] (by rw [results123]) ?_ ?_ ?_⟩ <;> simp [hfu]
theorem mV (Γ : Gl) (n : Nat) (hn : n < 4294967296) : Go.Ot.Good Γ prog 136 [.t (num n)] [] (.t (txt (nb 4 n))) [] [] := by
 have h8 := yF5 n hn
 have hu := yHO (n := n) (by omega)
 have hl := nb_len 8 n
 refine yR F.mix func136 (by rfl) ntmps136 ?_
 refine yD (yA rfl ?_)
 refine yF ?_
 refine yE (yB (yC (yD (yA rfl ?_))))
 refine yF ?_
 refine yU [] false ((by have h := lU Γ n; rw [hu] at h; exact h)) ?_
 iterate 2 refine yF ?_
 refine yE (yB (yC (yO ?_)))
 refine ⟨.inr rfl, yP [] (by rw [results136]) ?_ ?_ ?_⟩ <;> simp [h8]
theorem bN (Γ : Gl) (deep : Bool) (mayc : Wr → Bool) (put : Wr → List UInt8) (IH : ∀ (b : List UInt8) (w : Wr), mayc w = true → b.length + (put w).length ≤ 100000000 → Go.Ot.Good Γ prog 101 [.msl (.p 0) 0 (b).length 1, wA w] [xZ 5 w8 (b)] (.msl (.p 0) 0 (b ++ put w).length 1) [some (xZ 5 w8 (b ++ put w))] []) (b : List UInt8) (w : Wr) (hm : tB deep mayc w = true) (hlen : b.length + (uW put w).length ≤ 100000000) : Go.Ot.Good Γ prog 101 [.msl (.p 0) 0 (b).length 1, wA w] [xZ 5 w8 (b)] (.msl (.p 0) 0 (b ++ uW put w).length 1) [some (xZ 5 w8 (b ++ uW put w))] [] := by
 refine yR F.mix func101 (by rfl) ntmps101 ?_
 refine yD (yA rfl ?_)
 iterate 2 refine yF ?_
 refine yE (yB (yC (yD (yA rfl ?_))))
 obtain ⟨k, n, s, l⟩ := w
 rcases jW hm with rfl | ⟨rfl, hs⟩ | ⟨rfl, hl, hml⟩
 ·(try rw [uF] at hlen); (try rw [vZ] at hlen); (try rw [uC] at hlen); (try simp only [List.length_cons, List.length_append, nb_len] at hlen)
  iterate 3 refine yF ?_
  refine pQ ?_
  rw [show UInt8.ofInt 1 = 1 from rfl]
  iterate 3 refine yF ?_
  refine yE (yB (yC (yD (yD (yA rfl ?_)))))
  iterate 2 refine yF ?_
  refine yE (yB (yC (yH (yD (yA rfl ?_)))))
  iterate 2 refine yF ?_
  refine yE (yB (yC (xF (yD (yA rfl ?_)))))
  iterate 3 refine yF ?_
  refine yU [] false (lU Γ n) ?_
  iterate 2 refine yF ?_
  refine yE (yB (yC (yO (yI (yG ?_)))))
  refine ⟨.inr rfl, yP [(.p 0, .p 0)] (by rw [results101]) ?_ ?_ ?_⟩ <;> simp [-List.map_set, -List.map_replicate, -List.reduceReplicate, -List.map_map, -List.map_drop, -List.map_take, uF, Wr.cellsL_len, wA, Wr.k, Wr.n, Wr.s, Wr.l, Wr.cellsL, erT, chT, chV, wvT, Wr.z, CUT, KS, LONGER, nb_len] <;> (try omega)
 ·(try rw [uF] at hlen); (try rw [vZ] at hlen); (try rw [uC] at hlen); (try simp only [List.length_cons, List.length_append, nb_len] at hlen)
  iterate 3 refine yF ?_
  refine pQ ?_
  rw [show UInt8.ofInt 2 = 2 from rfl]
  iterate 3 refine yF ?_
  refine yE (yB (yC (yD (yD (yA rfl ?_)))))
  iterate 2 refine yF ?_
  refine yE (yB (yC (yH (yD (yA rfl ?_)))))
  iterate 2 refine yF ?_
  refine yE (yB (yC (yJ (yD (yA rfl ?_)))))
  iterate 2 refine yF ?_
  refine yE (yB (yC (xF (yD (yA rfl ?_)))))
  iterate 4 refine yF ?_
  refine yU [] false (mV Γ s.length (by omega)) ?_
  iterate 2 refine yF ?_
  refine yE (yB (yC (yD (yA rfl ?_))))
  iterate 5 refine yF ?_
  refine yE (yB (yC (yO (yI (yG ?_)))))
  refine ⟨.inr rfl, yP [(.p 0, .p 0)] (by rw [results101]) ?_ ?_ ?_⟩ <;> simp [-List.map_set, -List.map_replicate, -List.reduceReplicate, -List.map_map, -List.map_drop, -List.map_take, vZ, Wr.cellsL_len, wA, Wr.k, Wr.n, Wr.s, Wr.l, Wr.cellsL, erT, chT, chV, wvT, Wr.z, CUT, KS, LONGER, nb_len] <;> (try omega)
 ·(try rw [uF] at hlen); (try rw [vZ] at hlen); (try rw [uC] at hlen); (try simp only [List.length_cons, List.length_append, nb_len] at hlen)
  iterate 3 refine yF ?_
  refine pQ ?_
  rw [show UInt8.ofInt 3 = 3 from rfl]
  iterate 3 refine yF ?_
  refine yE (yB (yC (yD (yD (yA rfl ?_)))))
  iterate 2 refine yF ?_
  refine yE (yB (yC (yH (yD (yA rfl ?_)))))
  iterate 2 refine yF ?_
  refine yE (yB (yC (yJ (yD (yA rfl ?_)))))
  iterate 2 refine yF ?_
  refine yE (yB (yC (yJ (yL (yS (yC (yD (yA rfl ?_))))))))
  iterate 4 refine yF ?_
  refine yU [] false (mV Γ l.length (by omega)) ?_
  iterate 2 refine yF ?_
  refine yE (yB (yC (yD (yD (yA rfl ?_)))))
  refine yF ?_
  refine yE (yB (yC (yH ?_)))
  obtain ⟨c, hcc⟩ : ∃ c : List UInt8, c = b ++ [3] ++ nb 4 l.length := ⟨_, rfl⟩
  have hcl : c.length = b.length + 5 := by rw [hcc]; simp [nb_len]
  refine xN (fun sl L (i : Nat) => ⟨setAll (setBad sl [1, 6, 7, 8, 9, 10, 11, 12, 13, 14, 15, 16, 17, 18, 19, 20, 21, 22, 23, 24, 25, 26, 27, 28, 29, 30, 31, 32, 33, 34, 35, 36, 37, 38, 39, 40, 41, 42, 43, 44, 45, 46, 47, 48, 49, 50, 51, 52]) [(0, .msl (.p 0) 0 (c ++ fmT put l i).length 1), (5, .t (num i))], Go.Ot.look (vD (.p 0) (xZ 5 w8 (c ++ fmT put l i)) L)⟩) (fun i => i ≤ l.length) (fun i => l.length - i) (0) (wF ?_) ?_ ?_
  ·refine wL [(.p 0, .p 0), (.r 0 0 0, .r 0 0 0), (.r 1 4 0, .r 1 4 0)] ?_ ?_ ?_ <;> simp [-List.map_set, -List.map_replicate, -List.reduceReplicate, -List.map_map, -List.map_drop, -List.map_take, hcc, nb_len, kW] <;> (try omega)
  ·(first | omega | simp)
  ·intro i hi
   have hfl := pK (put := put) (l := l) (i := i)
   refine vE ?_
   refine yD (yD (yA rfl ?_))
   iterate 5 refine yF ?_
   refine yE (yB (yC ?_))
   refine vL (fun hc2 => ?_) (fun hc2 => ?_)
   ·(try simp only [zB] at hc2)
    refine yL (yC (yD (yH (yA rfl ?_))))
    iterate 5 refine yF ?_
    refine yF (hc := by (rw [List.length_drop, Wr.cellsL_len]; omega)) ?_
    refine wG [.p 0] [] [.p 0] false (IH (c ++ fmT put l i) (l.getD i default) (hml _ (uR (by omega))) (by have h1 := pK (put := put) (l := l) (i := i + 1); rw [sH (by omega)] at h1; simp only [List.length_append, List.length_cons, List.length_nil, nb_len] at h1 ⊢; omega)) ?_
    refine yF ?_
    refine yE (yB (yS (yC (yA rfl ?_))))
    iterate 3 refine yF ?_
    refine yE (yB ?_)
    have hil : i < l.length := by omega
    refine xE (i + 1) (wF ?_) ?_ ?_
    ·refine yT ?_ ?_ ?_ <;> simp [-List.map_set, -List.map_replicate, -List.reduceReplicate, -List.map_map, -List.map_drop, -List.map_take, sH hil, List.append_assoc] <;> (try omega)
    ·(first | omega | (simp_all <;> omega))
    ·(first | omega | (simp only []; omega))
   ·(try simp only [zB] at hc2)
    refine xQ (yM (yN (yK (yC (yD (yA rfl ?_))))))
    iterate 2 refine yF ?_
    refine yE (yB (yC (yO ?_)))
    refine ⟨.inr rfl, yP [(.p 0, .p 0)] (by rw [results101]) ?_ ?_ ?_⟩ <;> simp [-List.map_set, -List.map_replicate, -List.reduceReplicate, -List.map_map, -List.map_drop, -List.map_take, uC, Wr.cellsL_len, wA, Wr.k, Wr.n, Wr.s, Wr.l, Wr.cellsL, erT, chT, chV, wvT, Wr.z, CUT, KS, LONGER, nb_len, hcc, show i = l.length from by omega] <;> (try omega)
theorem fS (Γ : Gl) (deep : Bool) (mayc : Wr → Bool) (put : Wr → List UInt8) (IH : ∀ (b : List UInt8) (w : Wr), mayc w = true → b.length + (put w).length ≤ 100000000 → Go.Ot.Good Γ prog 101 [.msl (.p 0) 0 (b).length 1, wA w] [xZ 5 w8 (b)] (.msl (.p 0) 0 (b ++ put w).length 1) [some (xZ 5 w8 (b ++ put w))] []) (w : Wr) (hm : tB deep mayc w = true) (hlen : (uW put w).length ≤ 100000000) : Go.Ot.Good Γ prog 101 [.t (.v (.slice none 0 0)), wA w] [] (.t (lst w8 (uW put w))) [] [] := by
 refine yR F.mix func101 (by rfl) ntmps101 ?_
 refine yD (yA rfl ?_)
 iterate 2 refine yF ?_
 refine yE (yB (yC (yD (yA rfl ?_))))
 obtain ⟨k, n, s, l⟩ := w
 rcases jW hm with rfl | ⟨rfl, hs⟩ | ⟨rfl, hl, hml⟩
 ·(try rw [uF] at hlen); (try rw [vZ] at hlen); (try rw [uC] at hlen); (try simp only [List.length_cons, List.length_append, nb_len] at hlen)
  iterate 3 refine yF ?_
  refine pQ ?_
  rw [show UInt8.ofInt 1 = 1 from rfl]
  iterate 3 refine yF ?_
  refine yE (yB (yC (yD (yD (yA rfl ?_)))))
  iterate 2 refine yF ?_
  refine yE (yB (yC (yH (yD (yA rfl ?_)))))
  iterate 2 refine yF ?_
  refine yE (yB (yC (xF (yD (yA rfl ?_)))))
  iterate 3 refine yF ?_
  refine yU [] false (lU Γ n) ?_
  iterate 2 refine yF ?_
  refine yE (yB (yC (yO (yI (yG ?_)))))
  refine ⟨.inr rfl, yP [] (by rw [results101]) ?_ ?_ ?_⟩ <;> simp [-List.map_set, -List.map_replicate, -List.reduceReplicate, -List.map_map, -List.map_drop, -List.map_take, uF, Wr.cellsL_len, wA, Wr.k, Wr.n, Wr.s, Wr.l, Wr.cellsL, erT, chT, chV, wvT, Wr.z, CUT, KS, LONGER, nb_len] <;> (try omega)
 ·(try rw [uF] at hlen); (try rw [vZ] at hlen); (try rw [uC] at hlen); (try simp only [List.length_cons, List.length_append, nb_len] at hlen)
  iterate 3 refine yF ?_
  refine pQ ?_
  rw [show UInt8.ofInt 2 = 2 from rfl]
  iterate 3 refine yF ?_
  refine yE (yB (yC (yD (yD (yA rfl ?_)))))
  iterate 2 refine yF ?_
  refine yE (yB (yC (yH (yD (yA rfl ?_)))))
  iterate 2 refine yF ?_
  refine yE (yB (yC (yJ (yD (yA rfl ?_)))))
  iterate 2 refine yF ?_
  refine yE (yB (yC (xF (yD (yA rfl ?_)))))
  iterate 4 refine yF ?_
  refine yU [] false (mV Γ s.length (by omega)) ?_
  iterate 2 refine yF ?_
  refine yE (yB (yC (yD (yA rfl ?_))))
  iterate 5 refine yF ?_
  refine yE (yB (yC (yO (yI (yG ?_)))))
  refine ⟨.inr rfl, yP [] (by rw [results101]) ?_ ?_ ?_⟩ <;> simp [-List.map_set, -List.map_replicate, -List.reduceReplicate, -List.map_map, -List.map_drop, -List.map_take, vZ, Wr.cellsL_len, wA, Wr.k, Wr.n, Wr.s, Wr.l, Wr.cellsL, erT, chT, chV, wvT, Wr.z, CUT, KS, LONGER, nb_len] <;> (try omega)
 ·(try rw [uF] at hlen); (try rw [vZ] at hlen); (try rw [uC] at hlen); (try simp only [List.length_cons, List.length_append, nb_len] at hlen)
  iterate 3 refine yF ?_
  refine pQ ?_
  rw [show UInt8.ofInt 3 = 3 from rfl]
  iterate 3 refine yF ?_
  refine yE (yB (yC (yD (yD (yA rfl ?_)))))
  iterate 2 refine yF ?_
  refine yE (yB (yC (yH (yD (yA rfl ?_)))))
  iterate 2 refine yF ?_
  refine yE (yB (yC (yJ (yD (yA rfl ?_)))))
  iterate 2 refine yF ?_
  refine yE (yB (yC (yJ (yL (yS (yC (yD (yA rfl ?_))))))))
  iterate 4 refine yF ?_
  refine yU [] false (mV Γ l.length (by omega)) ?_
  iterate 2 refine yF ?_
  refine yE (yB (yC (yD (yD (yA rfl ?_)))))
  refine yF ?_
  refine yE (yB (yC (yH ?_)))
  obtain ⟨c, hcc⟩ : ∃ c : List UInt8, c = [3] ++ nb 4 l.length := ⟨_, rfl⟩
  have hcl : c.length = 5 := by rw [hcc]; simp [nb_len]
  refine xN (fun sl L (i : Nat) => ⟨setAll (setBad sl [1, 6, 7, 8, 9, 10, 11, 12, 13, 14, 15, 16, 17, 18, 19, 20, 21, 22, 23, 24, 25, 26, 27, 28, 29, 30, 31, 32, 33, 34, 35, 36, 37, 38, 39, 40, 41, 42, 43, 44, 45, 46, 47, 48, 49, 50, 51, 52]) [(0, .msl (.r 1 5 0) 0 (c ++ fmT put l i).length 1), (5, .t (num i))], Go.Ot.look (vD (.r 1 5 0) (xZ 5 w8 (c ++ fmT put l i)) L)⟩) (fun i => i ≤ l.length) (fun i => l.length - i) (0) (wF ?_) ?_ ?_
  ·refine wL [(.r 1 5 0, .r 1 5 0), (.r 0 0 0, .r 0 0 0), (.r 1 4 0, .r 1 4 0)] ?_ ?_ ?_ <;> simp [-List.map_set, -List.map_replicate, -List.reduceReplicate, -List.map_map, -List.map_drop, -List.map_take, hcc, nb_len, kW] <;> (try omega)
  ·(first | omega | simp)
  ·intro i hi
   have hfl := pK (put := put) (l := l) (i := i)
   refine vE ?_
   refine yD (yD (yA rfl ?_))
   iterate 5 refine yF ?_
   refine yE (yB (yC ?_))
   refine vL (fun hc2 => ?_) (fun hc2 => ?_)
   ·(try simp only [zB] at hc2)
    refine yL (yC (yD (yH (yA rfl ?_))))
    iterate 5 refine yF ?_
    refine yF (hc := by (rw [List.length_drop, Wr.cellsL_len]; omega)) ?_
    refine wG [.r 1 5 0] [] [.r 1 5 0] false (IH (c ++ fmT put l i) (l.getD i default) (hml _ (uR (by omega))) (by have h1 := pK (put := put) (l := l) (i := i + 1); rw [sH (by omega)] at h1; simp only [List.length_append, List.length_cons, List.length_nil, nb_len] at h1 ⊢; omega)) ?_
    refine yF ?_
    refine yE (yB (yS (yC (yA rfl ?_))))
    iterate 3 refine yF ?_
    refine yE (yB ?_)
    have hil : i < l.length := by omega
    refine xE (i + 1) (wF ?_) ?_ ?_
    ·refine yT ?_ ?_ ?_ <;> simp [-List.map_set, -List.map_replicate, -List.reduceReplicate, -List.map_map, -List.map_drop, -List.map_take, sH hil, List.append_assoc] <;> (try omega)
    ·(first | omega | (simp_all <;> omega))
    ·(first | omega | (simp only []; omega))
   ·(try simp only [zB] at hc2)
    refine xQ (yM (yN (yK (yC (yD (yA rfl ?_))))))
    iterate 2 refine yF ?_
    refine yE (yB (yC (yO ?_)))
    refine ⟨.inr rfl, yP [] (by rw [results101]) ?_ ?_ ?_⟩ <;> simp [-List.map_set, -List.map_replicate, -List.reduceReplicate, -List.map_map, -List.map_drop, -List.map_take, uC, Wr.cellsL_len, wA, Wr.k, Wr.n, Wr.s, Wr.l, Wr.cellsL, erT, chT, chV, wvT, Wr.z, CUT, KS, LONGER, nb_len, hcc, show i = l.length from by omega] <;> (try omega)
theorem bO (Γ : Gl) : ∀ (d : Nat) (b : List UInt8) (w : Wr), mayW d w = true → b.length + (putW d w).length ≤ 100000000 → Go.Ot.Good Γ prog 101 [.msl (.p 0) 0 b.length 1, wA w] [xZ 5 w8 b] (.msl (.p 0) 0 (b ++ putW d w).length 1) [some (xZ 5 w8 (b ++ putW d w))] []
 | 0, b, w, hm, hl => by
  rw [putW_z] at hl ⊢; rw [mayW_z] at hm
  exact bN Γ false (fun _ => false) (fun _ => []) (fun b w h => by cases h) b w hm hl
 | d + 1, b, w, hm, hl => by
  rw [lW] at hl ⊢; rw [lZ] at hm
  exact bN Γ true (mayW d) (putW d) (fun b w h hl => bO Γ d b w h hl) b w hm hl
theorem yCn (Γ : Gl) : ∀ (d : Nat) (w : Wr), mayW d w = true → (putW d w).length ≤ 100000000 → Go.Ot.Good Γ prog 101 [.t (.v (.slice none 0 0)), wA w] [] (.t (lst w8 (putW d w))) [] []
 | 0, w, hm, hl => by
  rw [putW_z] at hl ⊢; rw [mayW_z] at hm
  exact fS Γ false (fun _ => false) (fun _ => []) (fun b w h => by cases h) w hm hl
 | d + 1, w, hm, hl => by
  rw [lW] at hl ⊢; rw [lZ] at hm
  exact fS Γ true (mayW d) (putW d) (fun b w h hl => bO Γ d b w h hl) w hm hl
theorem PutR_t (Γ : Gl) (w : Wr) (hw : w.sz ≤ 1000000) (h : mayW 6 w = true) (hl : (putW 6 w).length ≤ 100000000) : Go.Ot.Good Γ prog 40 [wA w] [] (.t (txt (qB w))) [] [] := by
 refine yR F.mix func40 (by rfl) ntmps40 ?_
 refine yD (yA rfl ?_)
 iterate 2 refine yF ?_
 refine yE (yB (yC (yD (yD (yA rfl ?_)))))
 refine yF ?_
 refine yU [] false (by have := yAj Γ w hw; rw [h] at this; exact this) ?_
 refine yF ?_
 refine yE (yB (yC (yJ (yL (yC (yD (yA rfl ?_)))))))
 refine yF ?_
 refine yU [] true (yCn Γ 6 w h hl) ?_
 first | refine sV ?_ | refine uO ?_
 refine yF ?_
 refine yE (yB (yC (yO ?_)))
 refine ⟨.inr rfl, yP [] (by rw [results40]) ?_ ?_ ?_⟩ <;> simp [pS h]
theorem PutR_f (Γ : Gl) (w : Wr) (hw : w.sz ≤ 1000000) (h : mayW 6 w = false) : Go.Ot.Good Γ prog 40 [wA w] [] (.t (txt (qB w))) [] [] := by
 refine yR F.mix func40 (by rfl) ntmps40 ?_
 refine yD (yA rfl ?_)
 iterate 2 refine yF ?_
 refine yE (yB (yC (yD (yD (yA rfl ?_)))))
 refine yF ?_
 refine yU [] false (by have := yAj Γ w hw; rw [h] at this; exact this) ?_
 refine yF ?_
 refine yE (yB (yC (xF (yD (yA rfl ?_)))))
 refine yF ?_
 refine yE (yB (yC (yO (yG ?_))))
 refine ⟨.inr rfl, yP [] (by rw [results40]) ?_ ?_ ?_⟩ <;> simp [yFa h]
theorem lA (Γ : Gl) (w : Wr) (hw : w.sz ≤ 1000000) (hl : mayW 6 w = true → (putW 6 w).length ≤ 100000000) : Go.Ot.Good Γ prog 40 [wA w] [] (.t (txt (qB w))) [] [] := by
 cases h : mayW 6 w with
 | true => exact PutR_t Γ w hw h (hl h)
 | false => exact PutR_f Γ w hw h
end Go.Proofs.Tryz
