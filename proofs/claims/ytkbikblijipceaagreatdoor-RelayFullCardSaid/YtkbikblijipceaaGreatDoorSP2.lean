/- Contracts of this program's functions. -/
import Derived.Test.YtkbikblijipceaaGreatDoorSR3
import Derived.Test.YtkbikblijipceaaGreatDoorSM1
set_option maxHeartbeats 4000000
set_option maxRecDepth 100000
set_option linter.unusedVariables false
set_option linter.unusedSimpArgs false
namespace Go.Proofs.Tryz
open Go Go.Ot
theorem wrap_u64 (n : Int) : IntKind.u64.wrap n = (u64 n : Int) := by
 simp only [IntKind.wrap, IntKind.bits, IntKind.signed, u64]
 simp
 omega
def nbS (sz x : Nat) (j : Nat) : List UInt8 := (List.range j).map (fun t => UInt8.ofNat (x / 256 ^ (sz - 1 - t)))
theorem yBB (sz x : Nat) : nbS sz x 0 = [] := rfl
theorem dO (sz x j : Nat) : nbS sz x (j + 1) = nbS sz x j ++ [UInt8.ofNat (x / 256 ^ (sz - 1 - j))] := by simp [nbS, List.range_succ]
theorem yDS (sz x j : Nat) : (nbS sz x j).length = j := by simp [nbS]
theorem nbS_full : ∀ (sz x : Nat), nbS sz x sz = nb sz x
 | 0, x => rfl
 | sz + 1, x => by
  rw [dO, nb, ← nbS_full sz (x / 256)]
  congr 1
  ·apply List.map_congr_left
   intro t ht
   rw [List.mem_range] at ht
   rw [Nat.div_div_eq_div_mul, show sz + 1 - 1 - t = (sz - 1 - t) + 1 from by omega, Nat.pow_succ, Nat.mul_comm]
  ·simp
theorem yBZ (x k : Nat) : UInt8.ofInt ((x : Int) / 2 ^ (8 * k)) = UInt8.ofNat (x / 256 ^ k) := by
 have e : 2 ^ (8 * k) = 256 ^ k := by rw [Nat.pow_mul]
 rw [show (2 : Int) ^ (8 * k) = ((2 ^ (8 * k) : Nat) : Int) from by simp, e, ← Int.natCast_ediv]
 apply UInt8.toNat_inj.1
 rw [UInt8.ofInt, UInt8.toNat_ofNat', UInt8.toNat_ofNat']
 omega
theorem uF {sub : Wr → List UInt8} {n : Int} {s : List UInt8} {l : List Wr} : uW sub (.mk 1 n s l) = 1 :: nb 8 (u64 n) := by simp [uW]
theorem vZ {sub : Wr → List UInt8} {n : Int} {s : List UInt8} {l : List Wr} : uW sub (.mk 2 n s l) = 2 :: (nb 4 s.length ++ s) := by simp [uW]; rfl
theorem bZ {sub : Wr → List UInt8} {n : Int} {s : List UInt8} {l : List Wr} : uW sub (.mk 3 n s l) = 3 :: (nb 4 l.length ++ l.flatMap sub) := by simp [uW]; rfl
theorem jW {deep : Bool} {sub : Wr → Bool} {k n : Int} {s : List UInt8} {l : List Wr} (h : tB deep sub (.mk k n s l) = true) : k = 1 ∨ (k = 2 ∧ s.length ≤ 1048576) ∨ (k = 3 ∧ l.length ≤ 65536 ∧ ∀ w ∈ l, sub w = true) := by
 by_cases h1 : k = 1
 ·exact .inl h1
 ·by_cases h2 : k = 2
  ·subst h2
   rw [sR] at h
   simp only [Bool.and_eq_true, decide_eq_true_eq] at h
   exact .inr (.inl ⟨rfl, h.2⟩)
  ·by_cases h3 : k = 3
   ·subst h3
    rw [uY] at h
    simp only [Bool.and_eq_true, decide_eq_true_eq, List.all_eq_true] at h
    exact .inr (.inr ⟨rfl, h.1.2, h.2⟩)
   ·rw [yD0 ⟨h1, h2, h3⟩] at h; cases h
def fmT (put : Wr → List UInt8) (l : List Wr) (i : Nat) : List UInt8 := (l.take i).flatMap put
theorem kW (put : Wr → List UInt8) (l : List Wr) : fmT put l 0 = [] := rfl
theorem sH {put : Wr → List UInt8} {l : List Wr} {i : Nat} (h : i < l.length) : fmT put l (i + 1) = fmT put l i ++ put (l.getD i default) := by
 rw [fmT, fmT, List.take_add_one, List.getElem?_eq_getElem h, List.flatMap_append]
 simp [List.getD_eq_getElem?_getD, List.getElem?_eq_getElem h]
theorem yBU (put : Wr → List UInt8) (l : List Wr) : fmT put l l.length = l.flatMap put := by rw [fmT, List.take_length]
theorem pK {put : Wr → List UInt8} {l : List Wr} {i : Nat} : (fmT put l i).length ≤ (fmT put l l.length).length := by
 rw [yBU, fmT]
 conv => rhs; rw [← List.take_append_drop i l, List.flatMap_append, List.length_append]
 omega
theorem uC {sub : Wr → List UInt8} {n : Int} {s : List UInt8} {l : List Wr} : uW sub (.mk 3 n s l) = 3 :: (nb 4 l.length ++ fmT sub l l.length) := by rw [bZ, yBU]
attribute [push_cast] nb_len
end Go.Proofs.Tryz

namespace Go.Proofs.Tryz
open Go Go.Ot
attribute [local simp] num bol txt w8 w16 w32 w64 lst cls xZ xR List.take_of_length_le
attribute [local irreducible] wpK wpS uE wH wV wN wZ xD Le rdS lpW rdW got tB mayW ixF uW putW nb nbS u64 fmT
theorem uM (Γ : Gl) (b : List UInt8) (x sz : Nat) (hx : x < 18446744073709551616) (hz : sz ≤ 8) (hb : b.length ≤ 100000000) : Go.Ot.Good Γ prog 149 [.msl (.p 0) 0 (b).length 1, .t (.v (.int .u64 x)), .t (num sz)] [xZ 5 w8 (b)] (.msl (.p 0) 0 (b ++ nb sz x).length 1) [some (xZ 5 w8 (b ++ nb sz x))] [] := by
 refine yR F.mix func149 (by rfl) ntmps149 ?_
 refine yD (yA rfl ?_)
 refine yF ?_
 refine yE (yB (yC (yD (yD (yA rfl ?_)))))
 iterate 3 refine yF ?_
 refine yE (yB (yC (yH ?_)))
 refine xN (fun sl L (j : Nat) => ⟨setAll (setBad sl [2, 8, 9, 10, 11, 12, 13, 14, 15, 16, 17, 18, 19, 20, 21]) [(0, .msl (.p 0) 0 (b ++ nbS sz x j).length 1), (7, .t (num ((sz : Int) - 1 - (j : Int))))], Go.Ot.look (vD (.p 0) (xZ 5 w8 (b ++ nbS sz x j)) L)⟩) (fun j => j ≤ sz) (fun j => sz - j) (0) (wF ?_) ?_ ?_
 ·refine wL [(.p 0, .p 0)] ?_ ?_ ?_ <;> simp [-List.map_set, -List.map_replicate, -List.reduceReplicate, -List.map_map, -List.map_drop, -List.map_take, yBB] <;> (try omega)
 ·(first | omega | simp)
 ·intro j hj
  have hnl := yDS sz x j
  refine vE ?_
  refine yD (yD (yA rfl ?_))
  iterate 2 refine yF ?_
  refine yE (yB (yC ?_))
  refine vL (fun hc0 => ?_) (fun hc0 => ?_)
  ·(try simp only [zB] at hc0)
   refine yL (yC (yD (yH (yA rfl ?_))))
   iterate 5 refine yF ?_
   refine pQ ?_
   rw [show min ((8 : Int) * ((sz : Int) - 1 - (j : Int))).toNat 64 = 8 * (sz - 1 - j) from by omega, yBZ]
   iterate 3 refine yF ?_
   refine yE (yB (yS (yC (yA rfl ?_))))
   iterate 3 refine yF ?_
   refine yE (yB ?_)
   refine xE (j + 1) (wF ?_) ?_ ?_
   ·refine yT ?_ ?_ ?_ <;> simp [-List.map_set, -List.map_replicate, -List.reduceReplicate, -List.map_map, -List.map_drop, -List.map_take, dO, List.append_assoc] <;> (try omega)
   ·(first | omega | (simp_all <;> omega))
   ·(first | omega | (simp only []; omega))
  ·(try simp only [zB] at hc0)
   refine xQ (yM (yN (yK (yC (yD (yA rfl ?_))))))
   obtain rfl : j = sz := by omega
   have hfu := nbS_full j x
   iterate 2 refine yF ?_
   refine yE (yB (yC (yO ?_)))
   refine ⟨.inr rfl, yP [(.p 0, .p 0)] (by rw [results149]) ?_ ?_ ?_⟩ <;> simp [-List.map_set, -List.map_replicate, -List.reduceReplicate, -List.map_map, -List.map_drop, -List.map_take, hfu]
theorem yBs (Γ : Gl) (deep : Bool) (mayc : Wr → Bool) (put : Wr → List UInt8) (IH : ∀ (b : List UInt8) (w : Wr), mayc w = true → b.length + (put w).length ≤ 100000000 → Go.Ot.Good Γ prog 117 [.msl (.p 0) 0 (b).length 1, wA w] [xZ 5 w8 (b)] (.msl (.p 0) 0 (b ++ put w).length 1) [some (xZ 5 w8 (b ++ put w))] []) (b : List UInt8) (w : Wr) (hm : tB deep mayc w = true) (hlen : b.length + (uW put w).length ≤ 100000000) : Go.Ot.Good Γ prog 117 [.msl (.p 0) 0 (b).length 1, wA w] [xZ 5 w8 (b)] (.msl (.p 0) 0 (b ++ uW put w).length 1) [some (xZ 5 w8 (b ++ uW put w))] [] := by
 refine yR F.mix func117 (by rfl) ntmps117 ?_
 refine yD (yA rfl ?_)
 iterate 2 refine yF ?_
 refine yE (yB (yC (yD (yA rfl ?_))))
 obtain ⟨k, n, s, l⟩ := w
 rcases jW hm with rfl | ⟨rfl, hs⟩ | ⟨rfl, hl, hml⟩
 ·(try rw [uF] at hlen); (try rw [vZ] at hlen); (try rw [uC] at hlen); (try simp only [List.length_cons, List.length_append, nb_len] at hlen)
  iterate 3 refine yF ?_
  refine pQ ?_
  rw [show UInt8.ofInt 1 = 1 from rfl]
  iterate 3 refine yF ?_
  refine yE (yB (yC (yD (yD (yA rfl ?_)))))
  iterate 2 refine yF ?_
  refine yE (yB (yC (yH (yD (yA rfl ?_)))))
  iterate 2 refine yF ?_
  refine yE (yB (yC (xF (yD (yA rfl ?_)))))
  iterate 3 refine yF ?_
  refine yF (hs := by (simp only [push_cast, wrap_u64 n] <;> rfl)) ?_
  refine wG [.p 0] [] [.p 0] false (uM Γ (b ++ [1]) (u64 n) 8 (yBd _) (by omega) (by simp only [List.length_append, List.length_cons, List.length_nil]; omega)) ?_
  refine yF ?_
  refine yE (yB (yC (yO (yI (yG ?_)))))
  refine ⟨.inr rfl, yP [(.p 0, .p 0)] (by rw [results117]) ?_ ?_ ?_⟩ <;> simp [-List.map_set, -List.map_replicate, -List.reduceReplicate, -List.map_map, -List.map_drop, -List.map_take, uF, Wr.cellsL_len, wA, Wr.k, Wr.n, Wr.s, Wr.l, Wr.cellsL, erT, chT, chV, wvT, Wr.z, CUT, KS, LONGER, nb_len] <;> (try omega)
 ·(try rw [uF] at hlen); (try rw [vZ] at hlen); (try rw [uC] at hlen); (try simp only [List.length_cons, List.length_append, nb_len] at hlen)
  iterate 3 refine yF ?_
  refine pQ ?_
  rw [show UInt8.ofInt 2 = 2 from rfl]
  iterate 3 refine yF ?_
  refine yE (yB (yC (yD (yD (yA rfl ?_)))))
  iterate 2 refine yF ?_
  refine yE (yB (yC (yH (yD (yA rfl ?_)))))
  iterate 2 refine yF ?_
  refine yE (yB (yC (yJ (yD (yA rfl ?_)))))
  iterate 2 refine yF ?_
  refine yE (yB (yC (xF (yD ?_))))
  refine tD (.p 0) [0, 12, 24, 29] [] rfl ?_
  iterate 5 refine nK ?_
  refine vB [.p 0] [] [.p 0] false (uM Γ (b ++ [2]) s.length 4 (by omega) (by omega) (by simp only [List.length_append, List.length_cons, List.length_nil]; omega)) ?_
  iterate 4 refine nK ?_
  refine kK ⟨yC4 (by kernel_rfl) (by kernel_rfl), ?_⟩
  refine yC (yO (yI (yG ?_)))
  refine ⟨.inr rfl, yP [(.p 0, .p 0)] (by rw [results117]) ?_ ?_ ?_⟩ <;> simp [-List.map_set, -List.map_replicate, -List.reduceReplicate, -List.map_map, -List.map_drop, -List.map_take, vZ, Wr.cellsL_len, wA, Wr.k, Wr.n, Wr.s, Wr.l, Wr.cellsL, erT, chT, chV, wvT, Wr.z, CUT, KS, LONGER, nb_len] <;> (try omega)
 ·(try rw [uF] at hlen); (try rw [vZ] at hlen); (try rw [uC] at hlen); (try simp only [List.length_cons, List.length_append, nb_len] at hlen)
  iterate 3 refine yF ?_
  refine pQ ?_
  rw [show UInt8.ofInt 3 = 3 from rfl]
  iterate 3 refine yF ?_
  refine yE (yB (yC (yD (yD (yA rfl ?_)))))
  iterate 2 refine yF ?_
  refine yE (yB (yC (yH (yD (yA rfl ?_)))))
  iterate 2 refine yF ?_
  refine yE (yB (yC (yJ (yD (yA rfl ?_)))))
  iterate 2 refine yF ?_
  refine yE (yB (yC (yJ (yL (yS (yC (yD (yA rfl ?_))))))))
  iterate 5 refine yF ?_
  refine wG [.p 0] [] [.p 0] false (uM Γ (b ++ [3]) l.length 4 (by omega) (by omega) (by simp only [List.length_append, List.length_cons, List.length_nil]; omega)) ?_
  refine yF ?_
  refine yE (yB (yC (yD (yD (yA rfl ?_)))))
  iterate 4 refine yF ?_
  refine yE (yB (yC (yH ?_)))
  obtain ⟨c, hcc⟩ : ∃ c : List UInt8, c = b ++ [3] ++ nb 4 l.length := ⟨_, rfl⟩
  have hcl : c.length = b.length + 5 := by rw [hcc]; simp [nb_len]
  refine xN (fun sl L (i : Nat) => ⟨setAll (setBad sl [1, 3, 6, 7, 8, 9, 10, 11, 12, 13, 14, 15, 16, 17, 18, 19, 20, 21, 22, 23, 24, 25, 26, 27, 28, 29, 30, 31, 32, 33, 34, 35, 36, 37, 38, 39, 43, 44, 45, 46, 47, 48, 49]) [(0, .msl (.p 0) 0 (c ++ fmT put l i).length 1), (42, .t (num i))], Go.Ot.look (vD (.p 0) (xZ 5 w8 (c ++ fmT put l i)) L)⟩) (fun i => i ≤ l.length) (fun i => l.length - i) (0) (wF ?_) ?_ ?_
  ·refine wL [(.p 0, .p 0), (.r 0 0 0, .r 0 0 0), (.r 1 4 0, .r 1 4 0)] ?_ ?_ ?_ <;> simp [-List.map_set, -List.map_replicate, -List.reduceReplicate, -List.map_map, -List.map_drop, -List.map_take, hcc, nb_len, kW] <;> (try omega)
  ·(first | omega | simp)
  ·intro i hi
   have hfl := pK (put := put) (l := l) (i := i)
   refine vE ?_
   refine yD (yA rfl ?_)
   refine yF ?_
   refine yE (yB (yC (yD ?_)))
   refine vL (fun hc2 => ?_) (fun hc2 => ?_)
   ·(try simp only [zB] at hc2)
    refine yL (yC (yD (yH (yD (yA rfl ?_)))))
    refine yF ?_
    refine yF (hc := by (rw [List.length_drop, Wr.cellsL_len]; omega)) ?_
    iterate 2 refine yF ?_
    refine yE (yB (yC (yA rfl ?_)))
    iterate 2 refine yF ?_
    refine wG [.p 0] [] [.p 0] false (IH (c ++ fmT put l i) (l.getD i default) (hml _ (uR (by omega))) (by have h1 := pK (put := put) (l := l) (i := i + 1); rw [sH (by omega)] at h1; simp only [List.length_append, List.length_cons, List.length_nil, nb_len] at h1 ⊢; omega)) ?_
    refine yF ?_
    refine yE (yB (yS (yC (yA rfl ?_))))
    iterate 2 refine yF ?_
    refine yE (yB ?_)
    have hil : i < l.length := by omega
    refine xE (i + 1) (wF ?_) ?_ ?_
    ·refine yT ?_ ?_ ?_ <;> simp [-List.map_set, -List.map_replicate, -List.reduceReplicate, -List.map_map, -List.map_drop, -List.map_take, sH hil, List.append_assoc] <;> (try omega)
    ·(first | omega | (simp_all <;> omega))
    ·(first | omega | (simp only []; omega))
   ·(try simp only [zB] at hc2)
    refine xQ (yM (yN (yK (yC (yD (yA rfl ?_))))))
    iterate 2 refine yF ?_
    refine yE (yB (yC (yO ?_)))
    refine ⟨.inr rfl, yP [(.p 0, .p 0)] (by rw [results117]) ?_ ?_ ?_⟩ <;> simp [-List.map_set, -List.map_replicate, -List.reduceReplicate, -List.map_map, -List.map_drop, -List.map_take, uC, Wr.cellsL_len, wA, Wr.k, Wr.n, Wr.s, Wr.l, Wr.cellsL, erT, chT, chV, wvT, Wr.z, CUT, KS, LONGER, nb_len, hcc, show i = l.length from by omega] <;> (try omega)
theorem aA (Γ : Gl) (deep : Bool) (mayc : Wr → Bool) (put : Wr → List UInt8) (IH : ∀ (b : List UInt8) (w : Wr), mayc w = true → b.length + (put w).length ≤ 100000000 → Go.Ot.Good Γ prog 117 [.msl (.p 0) 0 (b).length 1, wA w] [xZ 5 w8 (b)] (.msl (.p 0) 0 (b ++ put w).length 1) [some (xZ 5 w8 (b ++ put w))] []) (w : Wr) (hm : tB deep mayc w = true) (hlen : (uW put w).length ≤ 100000000) : Go.Ot.Good Γ prog 117 [.t (.v (.slice none 0 0)), wA w] [] (.t (lst w8 (uW put w))) [] [] := by
 refine yR F.mix func117 (by rfl) ntmps117 ?_
 refine yD (yA rfl ?_)
 iterate 2 refine yF ?_
 refine yE (yB (yC (yD (yA rfl ?_))))
 obtain ⟨k, n, s, l⟩ := w
 rcases jW hm with rfl | ⟨rfl, hs⟩ | ⟨rfl, hl, hml⟩
 ·(try rw [uF] at hlen); (try rw [vZ] at hlen); (try rw [uC] at hlen); (try simp only [List.length_cons, List.length_append, nb_len] at hlen)
  iterate 3 refine yF ?_
  refine pQ ?_
  rw [show UInt8.ofInt 1 = 1 from rfl]
  iterate 3 refine yF ?_
  refine yE (yB (yC (yD (yD (yA rfl ?_)))))
  iterate 2 refine yF ?_
  refine yE (yB (yC (yH (yD (yA rfl ?_)))))
  iterate 2 refine yF ?_
  refine yE (yB (yC (xF (yD (yA rfl ?_)))))
  iterate 3 refine yF ?_
  refine yF (hs := by (simp only [push_cast, wrap_u64 n] <;> rfl)) ?_
  refine wG [.r 1 5 0] [] [.r 1 5 0] false (uM Γ ([1]) (u64 n) 8 (yBd _) (by omega) (by decide)) ?_
  refine yF ?_
  refine yE (yB (yC (yO (yI (yG ?_)))))
  refine ⟨.inr rfl, yP [] (by rw [results117]) ?_ ?_ ?_⟩ <;> simp [-List.map_set, -List.map_replicate, -List.reduceReplicate, -List.map_map, -List.map_drop, -List.map_take, uF, Wr.cellsL_len, wA, Wr.k, Wr.n, Wr.s, Wr.l, Wr.cellsL, erT, chT, chV, wvT, Wr.z, CUT, KS, LONGER, nb_len] <;> (try omega)
 ·(try rw [uF] at hlen); (try rw [vZ] at hlen); (try rw [uC] at hlen); (try simp only [List.length_cons, List.length_append, nb_len] at hlen)
  iterate 3 refine yF ?_
  refine pQ ?_
  rw [show UInt8.ofInt 2 = 2 from rfl]
  iterate 3 refine yF ?_
  refine yE (yB (yC (yD (yD (yA rfl ?_)))))
  iterate 2 refine yF ?_
  refine yE (yB (yC (yH (yD (yA rfl ?_)))))
  iterate 2 refine yF ?_
  refine yE (yB (yC (yJ (yD (yA rfl ?_)))))
  iterate 2 refine yF ?_
  refine yE (yB (yC (xF (yD ?_))))
  refine tD (.r 1 5 0) [0, 12, 24, 29] [] rfl ?_
  iterate 5 refine nK ?_
  refine vB [.r 1 5 0] [] [.r 1 5 0] false (uM Γ ([2]) s.length 4 (by omega) (by omega) (by decide)) ?_
  iterate 4 refine nK ?_
  refine kK ⟨yC4 (by kernel_rfl) (by kernel_rfl), ?_⟩
  refine yC (yO (yI (yG ?_)))
  refine ⟨.inr rfl, yP [] (by rw [results117]) ?_ ?_ ?_⟩ <;> simp [-List.map_set, -List.map_replicate, -List.reduceReplicate, -List.map_map, -List.map_drop, -List.map_take, vZ, Wr.cellsL_len, wA, Wr.k, Wr.n, Wr.s, Wr.l, Wr.cellsL, erT, chT, chV, wvT, Wr.z, CUT, KS, LONGER, nb_len] <;> (try omega)
 ·(try rw [uF] at hlen); (try rw [vZ] at hlen); (try rw [uC] at hlen); (try simp only [List.length_cons, List.length_append, nb_len] at hlen)
  iterate 3 refine yF ?_
  refine pQ ?_
  rw [show UInt8.ofInt 3 = 3 from rfl]
  iterate 3 refine yF ?_
  refine yE (yB (yC (yD (yD (yA rfl ?_)))))
  iterate 2 refine yF ?_
  refine yE (yB (yC (yH (yD (yA rfl ?_)))))
  iterate 2 refine yF ?_
  refine yE (yB (yC (yJ (yD (yA rfl ?_)))))
  iterate 2 refine yF ?_
  refine yE (yB (yC (yJ (yL (yS (yC (yD (yA rfl ?_))))))))
  iterate 5 refine yF ?_
  refine wG [.r 1 5 0] [] [.r 1 5 0] false (uM Γ ([3]) l.length 4 (by omega) (by omega) (by decide)) ?_
  refine yF ?_
  refine yE (yB (yC (yD (yD (yA rfl ?_)))))
  iterate 4 refine yF ?_
  refine yE (yB (yC (yH ?_)))
  obtain ⟨c, hcc⟩ : ∃ c : List UInt8, c = [3] ++ nb 4 l.length := ⟨_, rfl⟩
  have hcl : c.length = 5 := by rw [hcc]; simp [nb_len]
  refine xN (fun sl L (i : Nat) => ⟨setAll (setBad sl [1, 3, 6, 7, 8, 9, 10, 11, 12, 13, 14, 15, 16, 17, 18, 19, 20, 21, 22, 23, 24, 25, 26, 27, 28, 29, 30, 31, 32, 33, 34, 35, 36, 37, 38, 39, 43, 44, 45, 46, 47, 48, 49]) [(0, .msl (.r 1 5 0) 0 (c ++ fmT put l i).length 1), (42, .t (num i))], Go.Ot.look (vD (.r 1 5 0) (xZ 5 w8 (c ++ fmT put l i)) L)⟩) (fun i => i ≤ l.length) (fun i => l.length - i) (0) (wF ?_) ?_ ?_
  ·refine wL [(.r 1 5 0, .r 1 5 0), (.r 0 0 0, .r 0 0 0), (.r 1 4 0, .r 1 4 0)] ?_ ?_ ?_ <;> simp [-List.map_set, -List.map_replicate, -List.reduceReplicate, -List.map_map, -List.map_drop, -List.map_take, hcc, nb_len, kW] <;> (try omega)
  ·(first | omega | simp)
  ·intro i hi
   have hfl := pK (put := put) (l := l) (i := i)
   refine vE ?_
   refine yD (yA rfl ?_)
   refine yF ?_
   refine yE (yB (yC (yD ?_)))
   refine vL (fun hc2 => ?_) (fun hc2 => ?_)
   ·(try simp only [zB] at hc2)
    refine yL (yC (yD (yH (yD (yA rfl ?_)))))
    refine yF ?_
    refine yF (hc := by (rw [List.length_drop, Wr.cellsL_len]; omega)) ?_
    iterate 2 refine yF ?_
    refine yE (yB (yC (yA rfl ?_)))
    iterate 2 refine yF ?_
    refine wG [.r 1 5 0] [] [.r 1 5 0] false (IH (c ++ fmT put l i) (l.getD i default) (hml _ (uR (by omega))) (by have h1 := pK (put := put) (l := l) (i := i + 1); rw [sH (by omega)] at h1; simp only [List.length_append, List.length_cons, List.length_nil, nb_len] at h1 ⊢; omega)) ?_
    refine yF ?_
    refine yE (yB (yS (yC (yA rfl ?_))))
    iterate 2 refine yF ?_
    refine yE (yB ?_)
    have hil : i < l.length := by omega
    refine xE (i + 1) (wF ?_) ?_ ?_
    ·refine yT ?_ ?_ ?_ <;> simp [-List.map_set, -List.map_replicate, -List.reduceReplicate, -List.map_map, -List.map_drop, -List.map_take, sH hil, List.append_assoc] <;> (try omega)
    ·(first | omega | (simp_all <;> omega))
    ·(first | omega | (simp only []; omega))
   ·(try simp only [zB] at hc2)
    refine xQ (yM (yN (yK (yC (yD (yA rfl ?_))))))
    iterate 2 refine yF ?_
    refine yE (yB (yC (yO ?_)))
    refine ⟨.inr rfl, yP [] (by rw [results117]) ?_ ?_ ?_⟩ <;> simp [-List.map_set, -List.map_replicate, -List.reduceReplicate, -List.map_map, -List.map_drop, -List.map_take, uC, Wr.cellsL_len, wA, Wr.k, Wr.n, Wr.s, Wr.l, Wr.cellsL, erT, chT, chV, wvT, Wr.z, CUT, KS, LONGER, nb_len, hcc, show i = l.length from by omega] <;> (try omega)
end Go.Proofs.Tryz

namespace Go.Proofs.Tryz
open Go Go.Ot
theorem yBG (Γ : Gl) : ∀ (d : Nat), d ≤ 6 → ∀ w, Go.Ot.Good Γ prog 148 [wA w, .t (num d)] [] (.t (bol (mayW d w))) [] []
 | 0, h, w => yBF Γ 0 h false (by simp) (fun _ => false) (fun h => by omega) w
 | d + 1, h, w => yBF Γ (d + 1) h true (by simp) (mayW d) (fun _ w => by
   have := yBG Γ d (by omega) w
   rwa [show ((d + 1 : Nat) : Int) - 1 = (d : Int) from by omega]) w
theorem yBt (Γ : Gl) : ∀ (d : Nat) (b : List UInt8) (w : Wr), mayW d w = true → b.length + (putW d w).length ≤ 100000000 → Go.Ot.Good Γ prog 117 [.msl (.p 0) 0 b.length 1, wA w] [xZ 5 w8 b] (.msl (.p 0) 0 (b ++ putW d w).length 1) [some (xZ 5 w8 (b ++ putW d w))] []
 | 0, b, w, hm, hl => yBs Γ false (fun _ => false) (fun _ => []) (fun b w h => by cases h) b w hm hl
 | d + 1, b, w, hm, hl => yBs Γ true (mayW d) (putW d) (fun b w h hl => yBt Γ d b w h hl) b w hm hl
theorem yDG (Γ : Gl) : ∀ (d : Nat) (w : Wr), mayW d w = true → (putW d w).length ≤ 100000000 → Go.Ot.Good Γ prog 117 [.t (.v (.slice none 0 0)), wA w] [] (.t (lst w8 (putW d w))) [] []
 | 0, w, hm, hl => aA Γ false (fun _ => false) (fun _ => []) (fun b w h => by cases h) w hm hl
 | d + 1, w, hm, hl => aA Γ true (mayW d) (putW d) (fun b w h hl => yBt Γ d b w h hl) w hm hl
def qB (w : Wr) : List UInt8 := if mayW 6 w = true then putW 6 w else []
theorem pS {w : Wr} (h : mayW 6 w = true) : qB w = putW 6 w := by simp [qB, h]
theorem yFa {w : Wr} (h : mayW 6 w = false) : qB w = [] := by simp [qB, h]
attribute [local simp] num bol txt w8 w16 w32 w64 lst cls xZ xR List.take_of_length_le
attribute [local irreducible] wpK wpS uE wH wV wN wZ xD Le rdS lpW rdW got tB mayW ixF uW putW nb nbS u64 fmT qB
theorem yB8 (Γ : Gl) (w : Wr) : Go.Ot.Good Γ prog 116 [wA w] [] (.t (bol (mayW 6 w))) [] [] := by
 refine yR F.mix func116 (by rfl) ntmps116 ?_
 refine yD (yA rfl ?_)
 iterate 2 refine yF ?_
 refine yE (yB (yC (yD (yA rfl ?_))))
 refine yF ?_
 refine yU [] false (yBG Γ 6 (by omega) w) ?_
 refine yF ?_
 refine yE (yB (yC (yO ?_)))
 refine ⟨.inr rfl, yP [] (by rw [results116]) ?_ ?_ ?_⟩ <;> simp
theorem Put_t (Γ : Gl) (w : Wr) (h : mayW 6 w = true) (hl : (putW 6 w).length ≤ 100000000) : Go.Ot.Good Γ prog 66 [wA w] [] (.t (txt (qB w))) [] [] := by
 refine yR F.mix func66 (by rfl) ntmps66 ?_
 refine yD (yA rfl ?_)
 iterate 2 refine yF ?_
 refine yE (yB (yC (yD (yD (yA rfl ?_)))))
 refine yF ?_
 refine yU [] false (by have := yB8 Γ w; rw [h] at this; exact this) ?_
 refine yF ?_
 refine yE (yB (yC (yJ (yL (yC (yD (yA rfl ?_)))))))
 refine yF ?_
 refine yU [] true (yDG Γ 6 w h hl) ?_
 first | refine sV ?_ | refine uO ?_
 refine yF ?_
 refine yE (yB (yC (yO ?_)))
 refine ⟨.inr rfl, yP [] (by rw [results66]) ?_ ?_ ?_⟩ <;> simp [pS h]
theorem Put_f (Γ : Gl) (w : Wr) (h : mayW 6 w = false) : Go.Ot.Good Γ prog 66 [wA w] [] (.t (txt (qB w))) [] [] := by
 refine yR F.mix func66 (by rfl) ntmps66 ?_
 refine yD (yA rfl ?_)
 iterate 2 refine yF ?_
 refine yE (yB (yC (yD (yD (yA rfl ?_)))))
 refine yF ?_
 refine yU [] false (by have := yB8 Γ w; rw [h] at this; exact this) ?_
 refine yF ?_
 refine yE (yB (yC (xF (yD (yA rfl ?_)))))
 refine yF ?_
 refine yE (yB (yC (yO (yG ?_))))
 refine ⟨.inr rfl, yP [] (by rw [results66]) ?_ ?_ ?_⟩ <;> simp [yFa h]
theorem cL (Γ : Gl) (w : Wr) (hl : mayW 6 w = true → (putW 6 w).length ≤ 100000000) : Go.Ot.Good Γ prog 66 [wA w] [] (.t (txt (qB w))) [] [] := by
 cases h : mayW 6 w with
 | true => exact Put_t Γ w h (hl h)
 | false => exact Put_f Γ w h
end Go.Proofs.Tryz
