/- Contracts of this program's functions. -/
import Derived.Test.YtkbikblijipceaaGreatDoorSRC8
import Derived.Test.YtkbikblijipceaaGreatDoorSRC4
import Derived.Test.YtkbikblijipceaaGreatDoorSRL1
import Derived.Test.YtkbikblijipceaaGreatDoorSME5
set_option maxHeartbeats 4000000
set_option maxRecDepth 100000
set_option linter.unusedVariables false
set_option linter.unusedSimpArgs false
namespace Go.Proofs.Tryz
open Go Go.Ot
def mA (l : List Int) : List Bool := (List.range 8).map fun d : Nat => l.contains (d : Int)
@[push_cast] theorem eF (l : List Int) : (mA l).length = 8 := by rw [mA, List.length_map, List.length_range]
theorem mA_get {l : List Int} {d : Nat} (h : d < 8) : (mA l).getD d false = l.contains (d : Int) := by
 rw [mA, List.getD_eq_getElem?_getD, List.getElem?_map, List.getElem?_range h]; rfl
theorem mA_nil : mA [] = List.replicate 8 false := by decide
theorem mA_add {l : List Int} {j : Nat} (h : j < 8) : (mA l).set j true = mA (l ++ [(j : Int)]) := by
 refine List.ext_getElem (by rw [List.length_set, eF, eF]) (fun n h1 h2 => ?_)
 rw [eF] at h2
 rw [List.getElem_set]
 simp only [mA, List.getElem_map, List.getElem_range]
 by_cases e : j = n
 ·subst e; simp
 ·rw [if_neg e]
  rcases hc : l.contains (n : Int) with _ | _
  ·symm; rw [Bool.eq_false_iff] at hc ⊢; intro h; apply hc; rw [List.contains_iff_mem] at h ⊢; rcases List.mem_append.1 h with h | h
   ·exact h
   ·exact absurd (List.mem_singleton.1 h) (by omega)
  ·symm; rw [List.contains_iff_mem] at hc ⊢; exact List.mem_append_left _ hc
theorem mA_del {l : List Int} {j : Nat} (h : j < 8) : (mA l).set j false = mA (fl l (j : Int)) := by
 refine List.ext_getElem (by rw [List.length_set, eF, eF]) (fun n h1 h2 => ?_)
 rw [eF] at h2
 rw [List.getElem_set]
 simp only [mA, List.getElem_map, List.getElem_range]
 by_cases e : j = n
 ·subst e
  rw [if_pos rfl]; symm; rw [Bool.eq_false_iff]; intro h; rw [List.contains_iff_mem, fl] at h; have := (List.mem_filter.1 h).2; simp at this
 ·rw [if_neg e]
  rcases hc : l.contains (n : Int) with _ | _
  ·symm; rw [Bool.eq_false_iff] at hc ⊢; intro h; apply hc; rw [List.contains_iff_mem, fl] at h; rw [List.contains_iff_mem]; exact (List.mem_filter.1 h).1
  ·symm; rw [List.contains_iff_mem] at hc ⊢; exact List.mem_filter.2 ⟨hc, by simp; omega⟩
def gQ (l : List Int) : Nat → List Int
 | 0 => []
 | d + 1 => if l.contains (d : Int) = true then gQ l d ++ [(d : Int)] else gQ l d
theorem memL_0 (l : List Int) : gQ l 0 = [] := rfl
theorem yBC {l : List Int} {d : Nat} (h : l.contains (d : Int) = true) : gQ l (d + 1) = gQ l d ++ [(d : Int)] := if_pos h
theorem yDW {l : List Int} {d : Nat} (h : l.contains (d : Int) = false) : gQ l (d + 1) = gQ l d := if_neg (by rw [h]; decide)
theorem kU (l : List Int) : ∀ d, (gQ l d).length ≤ d
 | 0 => Nat.le_refl _
 | d + 1 => by
  have := kU l d
  rw [gQ]; split
  ·rw [List.length_append]; exact Nat.succ_le_succ this
  ·omega
theorem memL_mem {l : List Int} : ∀ {d : Nat} {x : Int}, x ∈ gQ l d ↔ ∃ j : Nat, x = (j : Int) ∧ j < d ∧ l.contains (j : Int) = true
 | 0, x => ⟨fun h => (by cases h), fun ⟨j, _, h, _⟩ => absurd h (Nat.not_lt_zero _)⟩
 | d + 1, x => by
  have ih := memL_mem (l := l) (d := d) (x := x)
  rcases hc : l.contains (d : Int) with _ | _
  ·rw [yDW hc, ih]
   constructor
   ·rintro ⟨j, h1, h2, h3⟩; exact ⟨j, h1, by omega, h3⟩
   ·rintro ⟨j, h1, h2, h3⟩
    refine ⟨j, h1, ?_, h3⟩
    have : j ≠ d := fun e => by rw [e, hc] at h3; cases h3
    omega
  ·rw [yBC hc, List.mem_append, ih]
   constructor
   ·rintro (⟨j, h1, h2, h3⟩ | h)
    ·exact ⟨j, h1, by omega, h3⟩
    ·exact ⟨d, List.mem_singleton.1 h, by omega, hc⟩
   ·rintro ⟨j, h1, h2, h3⟩
    by_cases e : j = d
    ·exact .inr (List.mem_singleton.2 (by rw [h1, e]))
    ·exact .inl ⟨j, h1, by omega, h3⟩
attribute [local irreducible] wpK wpS uE wH wV wN wZ xD Le rdS lpW rdW got tB mayW uW putW nb u64 qB mwB sha rcF hdF hsh RG inF chC fl lkT ckB chP chS mA gQ
theorem yGa (Γ : Gl) (log : List Rc) (hck : ckB log = true) : Go.Ot.Good Γ prog 156 [.t (.sl log.length (log.flatMap rcT)), .t (num log.length)] [] (.msl (.n 0) 0 (gQ (inF log log.length) 8).length 1) [] [xZ 3 num (gQ (inF log log.length) 8)] := by
 have h40 := (uJ hck).1
 refine yR F.mix func156 (by rfl) ntmps156 ?_
 refine yD (yA rfl ?_)
 refine yF ?_
 refine yE (yB (yC (yD (yA rfl ?_))))
 refine yF ?_
 refine yE (yB (yC (yD (yD (yA rfl ?_)))))
 iterate 3 refine yF ?_
 refine yE (yB (yC (yH ?_)))
 refine xN (fun sl L (i : Nat) => ⟨setAll (setBad sl [0, 7, 8, 15, 16, 17, 18, 19, 20, 21, 22, 23, 24, 25, 26, 27, 28, 29, 30, 31, 32, 33, 34, 35, 36, 37, 38, 39, 40, 41, 42]) [(14, .t (num i))], Go.Ot.look (vD (.r 1 0 0) (xR 239 (cls bol (mA (inF log i)))) L)⟩) (fun i => i ≤ log.length) (fun i => log.length - i) (0) (wF ?_) ?_ ?_
 ·refine wL [(.r 1 0 0, .r 1 0 0)] ?_ ?_ ?_ <;> simp [-List.map_set, -List.map_replicate, -List.reduceReplicate, -List.map_map, -List.map_drop, -List.map_take, num, bol, txt, w8, w16, w32, w64, lst, cls, xZ, xR, List.take_of_length_le, Wr.cellsL_len, wA, Wr.k_mk, Wr.n_mk, Wr.s_mk, Wr.l_mk, Wr.cellsL, Wr.z_eq, rcT, wpT, inF_0, mA_nil, List.replicate]
 ·(first | omega | simp)
 ·intro i hi
  refine vE ?_
  refine yD (yA rfl ?_)
  refine yF ?_
  refine yE (yB (yC (yD ?_)))
  refine vL (fun hc0 => ?_) (fun hc0 => ?_)
  ·(try simp only [zB] at hc0)
   refine yL (yC (yD (yH (yD (yA rfl ?_)))))
   iterate 2 refine yF ?_
   have hil : i < log.length := by omega
   obtain ⟨r, he⟩ : ∃ r, log.getD i default = r := ⟨_, rfl⟩
   have hok := kC hck hil
   rw [he] at hok
   obtain ⟨hp, hsq⟩ := hok
   have hkd := hp.2.2.2.1
   obtain ⟨j, hj, hj8⟩ : ∃ j : Nat, r.dev = (j : Int) ∧ j < 8 := ⟨r.dev.toNat, by have := hp.2.2.2.2.1; omega, by have := hp.2.2.2.2.1; omega⟩
   simp only [he, hj, hsq]
   iterate 2 refine yF ?_
   refine yE (yB (yC (yD (yD (yA rfl ?_)))))
   rcases hkd with hk | hk
   ·simp only [hk]
    have hn : inF log (i + 1) = inF log i ++ [(j : Int)] := by rw [pI (by rw [he, hk]), he, hj]
    have hset := mA_add (l := inF log i) hj8
    iterate 5 refine yF ?_
    iterate 3 refine xB ?_
    iterate 2 refine yF ?_
    iterate 3 refine xB ?_
    refine yF ?_
    refine yE (yB (yC (yJ (yL (yC (yD (yA rfl ?_)))))))
    refine yF ?_
    refine yE (yB (yC (yD (yA rfl ?_))))
    iterate 2 refine yF ?_
    refine yE (yB (yC (yH (yD (yH (yD (yH (yD (yD (yD (yA rfl ?_)))))))))))
    iterate 2 refine yF ?_
    refine yE (yB (yC (xF (xQ (yM (yM (yK (yC (yA rfl ?_)))))))))
    refine yF ?_
    refine yE (yB (yS (yC (yD (yA rfl ?_)))))
    iterate 5 refine yF ?_
    refine yE (yB (yC (xQ (yK (yS (yC (yA rfl ?_)))))))
    iterate 2 refine yF ?_
    refine yE (yB ?_)
    refine xE (i + 1) (wF ?_) ?_ ?_
    ·refine wL [(.r 1 0 0, .r 1 0 0)] ?_ ?_ ?_ <;> simp [-List.map_set, -List.map_replicate, -List.reduceReplicate, -List.map_map, -List.map_drop, -List.map_take, num, bol, txt, w8, w16, w32, w64, lst, cls, xZ, xR, List.take_of_length_le, Wr.cellsL_len, wA, Wr.k_mk, Wr.n_mk, Wr.s_mk, Wr.l_mk, Wr.cellsL, Wr.z_eq, rcT, wpT, hn, hset]
    ·(first | omega | (simp_all <;> omega))
    ·(first | omega | (simp only []; omega))
   ·simp only [hk]
    have hn : inF log (i + 1) = fl (inF log i) (j : Int) := by rw [hC (by rw [he, hk]; decide), he, hj]
    have hset := mA_del (l := inF log i) hj8
    iterate 5 refine yF ?_
    iterate 3 refine xB ?_
    iterate 2 refine yF ?_
    iterate 3 refine xB ?_
    refine yF ?_
    refine yE (yB (yC (yJ (yL (yC (yD (yA rfl ?_)))))))
    refine yF ?_
    refine yE (yB (yC (yD (yA rfl ?_))))
    iterate 2 refine yF ?_
    refine yE (yB (yC (yH (yD (yH (yD (yH (yD (yD (yD (yA rfl ?_)))))))))))
    iterate 2 refine yF ?_
    refine yE (yB (yC (yJ (yL (yC (yD (yA rfl ?_)))))))
    iterate 2 refine yF ?_
    refine yE (yB (yC (xF (xQ (yM (wU (by decide) (yM (yK (yC (yD (yA rfl ?_)))))))))))
    iterate 5 refine yF ?_
    refine yE (yB (yC (xQ (yK (yS (yC (yA rfl ?_)))))))
    iterate 2 refine yF ?_
    refine yE (yB ?_)
    refine xE (i + 1) (wF ?_) ?_ ?_
    ·refine wL [(.r 1 0 0, .r 1 0 0)] ?_ ?_ ?_ <;> simp [-List.map_set, -List.map_replicate, -List.reduceReplicate, -List.map_map, -List.map_drop, -List.map_take, num, bol, txt, w8, w16, w32, w64, lst, cls, xZ, xR, List.take_of_length_le, Wr.cellsL_len, wA, Wr.k_mk, Wr.n_mk, Wr.s_mk, Wr.l_mk, Wr.cellsL, Wr.z_eq, rcT, wpT, hn, hset]
    ·(first | omega | (simp_all <;> omega))
    ·(first | omega | (simp only []; omega))
  ·(try simp only [zB] at hc0)
   refine xQ (yM (yN (yK (yC (yD (yA rfl ?_))))))
   refine yF ?_
   refine yE (yB (yC (yD (yD (yA rfl ?_)))))
   have hil : i = log.length := by omega
   subst hil
   iterate 2 refine yF ?_
   refine yE (yB (yC (yH ?_)))
   refine xN (fun sl L (d : Nat) => ⟨setAll (setBad sl [0, 1, 5, 7, 8, 10, 11, 12, 13, 14, 15, 16, 17, 18, 19, 20, 21, 22, 23, 24, 25, 26, 27, 28, 29, 30, 31, 32, 33, 34, 35, 36, 37, 38, 39, 40, 41, 42, 45, 46, 47, 48, 49, 50, 51, 52, 53]) [(44, .t (num d)), (9, .msl (.n 9) 0 (gQ (inF log log.length) d).length 1)], Go.Ot.look (vD (.n 9) (xZ 3 num (gQ (inF log log.length) d)) (lN (.r 1 0 0) L))⟩) (fun d => d ≤ 8) (fun d => 8 - d) (0) (wF ?_) ?_ ?_
   ·refine wL [] ?_ ?_ ?_ <;> simp [-List.map_set, -List.map_replicate, -List.reduceReplicate, -List.map_map, -List.map_drop, -List.map_take, num, bol, txt, w8, w16, w32, w64, lst, cls, xZ, xR, List.take_of_length_le, Wr.cellsL_len, wA, Wr.k_mk, Wr.n_mk, Wr.s_mk, Wr.l_mk, Wr.cellsL, Wr.z_eq, rcT, wpT, memL_0]
   ·(first | omega | simp)
   ·intro d hd
    have hml := kU (inF log log.length) d
    refine vE ?_
    refine yD (yA rfl ?_)
    refine yF ?_
    refine yE (yB (yC (yD ?_)))
    refine vL (fun hc4 => ?_) (fun hc4 => ?_)
    ·(try simp only [zB] at hc4)
     refine yL (yC (yD (yH (yD (yA rfl ?_)))))
     iterate 2 refine yF ?_
     have hd8 : d < 8 := by omega
     simp only [mA_get (l := inF log log.length) hd8]
     iterate 2 refine yF ?_
     refine yE (yB (yC (yD (yA rfl ?_))))
     rcases hc : (inF log log.length).contains (d : Int) with _ | _
     ·have hn : gQ (inF log log.length) (d + 1) = _ := yDW hc
      refine yF (hs := by (simp (disch := first | omega | (simp only [zL] <;> omega) | (simp only [push_cast] <;> omega) | fail) only [push_cast, reduceCtorEq, Nat.reduceAdd, Nat.reduceSub, Nat.reduceMul, Nat.reduceEqDiff, Nat.reduceLT, Nat.reduceLeDiff, Nat.reduceMod, Nat.reduceDiv, Int.reduceLE, Int.reduceLT, Int.reduceEq, Int.reduceToNat, Int.reduceAdd, Int.reduceSub, Int.reduceMul, Int.reduceNeg, hc] <;> rfl)) ?_
      refine yE (yB (yC (yJ (yL (yS (yC (yA rfl ?_)))))))
      iterate 2 refine yF ?_
      refine yE (yB ?_)
      refine xE (d + 1) (wF ?_) ?_ ?_
      ·refine wL [(.n 9, .n 9)] ?_ ?_ ?_ <;> simp [-List.map_set, -List.map_replicate, -List.reduceReplicate, -List.map_map, -List.map_drop, -List.map_take, num, bol, txt, w8, w16, w32, w64, lst, cls, xZ, xR, List.take_of_length_le, Wr.cellsL_len, wA, Wr.k_mk, Wr.n_mk, Wr.s_mk, Wr.l_mk, Wr.cellsL, Wr.z_eq, rcT, wpT, hn]
      ·(first | omega | (simp_all <;> omega))
      ·(first | omega | (simp only []; omega))
     ·have hn : gQ (inF log log.length) (d + 1) = _ := yBC hc
      refine yF (hs := by (simp (disch := first | omega | (simp only [zL] <;> omega) | (simp only [push_cast] <;> omega) | fail) only [push_cast, reduceCtorEq, Nat.reduceAdd, Nat.reduceSub, Nat.reduceMul, Nat.reduceEqDiff, Nat.reduceLT, Nat.reduceLeDiff, Nat.reduceMod, Nat.reduceDiv, Int.reduceLE, Int.reduceLT, Int.reduceEq, Int.reduceToNat, Int.reduceAdd, Int.reduceSub, Int.reduceMul, Int.reduceNeg, hc] <;> rfl)) ?_
      refine yE (yB (yC (xF (yA rfl ?_))))
      iterate 5 refine yF ?_
      refine yE (yB (yS (yC (yA rfl ?_))))
      iterate 2 refine yF ?_
      refine yE (yB ?_)
      refine xE (d + 1) (wF ?_) ?_ ?_
      ·refine wL [(.n 9, .n 9)] ?_ ?_ ?_ <;> simp [-List.map_set, -List.map_replicate, -List.reduceReplicate, -List.map_map, -List.map_drop, -List.map_take, num, bol, txt, w8, w16, w32, w64, lst, cls, xZ, xR, List.take_of_length_le, Wr.cellsL_len, wA, Wr.k_mk, Wr.n_mk, Wr.s_mk, Wr.l_mk, Wr.cellsL, Wr.z_eq, rcT, wpT, hn]
      ·(first | omega | (simp_all <;> omega))
      ·(first | omega | (simp only []; omega))
    ·(try simp only [zB] at hc4)
     refine xQ (yM (yN (yK (yC (yD (yA rfl ?_))))))
     iterate 2 refine yF ?_
     refine yE (yB (yC (yO ?_)))
     refine ⟨.inr rfl, yP [(.n 0, .n 9)] (by rw [results156]) ?_ ?_ ?_⟩ <;> simp [-List.map_set, -List.map_replicate, -List.reduceReplicate, -List.map_map, -List.map_drop, -List.map_take, num, bol, txt, w8, w16, w32, w64, lst, cls, xZ, xR, List.take_of_length_le, Wr.cellsL_len, wA, Wr.k_mk, Wr.n_mk, Wr.s_mk, Wr.l_mk, Wr.cellsL, Wr.z_eq, rcT, wpT, show d = 8 from by omega]
end Go.Proofs.Tryz

namespace Go.Proofs.Tryz
open Go Go.Ot
def fq (Q : Int → Bool) (l : List Int) : List Int := l.filter (fun x => !Q x)
theorem dX (Q : Int → Bool) (l : List Int) {j : Nat} (h : j < l.length) : fq Q (l.take (j + 1)) = if Q (l.getD j 0) = false then fq Q (l.take j) ++ [l.getD j 0] else fq Q (l.take j) := by
 have e : l.getD j 0 = l[j] := by simp [List.getD_eq_getElem?_getD, List.getElem?_eq_getElem h]
 rw [List.take_add_one, List.getElem?_eq_getElem h, fq, List.filter_append, e]
 rcases hq : Q l[j] with _ | _ <;> simp [fq, hq]
theorem yEx {Q : Int → Bool} {l : List Int} {k : Nat} (hb : ∀ j, j < k → Q (l.getD j 0) = false) : ∀ i, i ≤ k → i ≤ l.length → fq Q (l.take i) = l.take i
 | 0, _, _ => by simp [fq]
 | i + 1, h, hl => by
  rw [dX Q l (by omega), if_pos (hb i (by omega)), yEx hb i (by omega) (by omega), List.take_add_one, List.getElem?_eq_getElem (by omega)]
  simp [List.getD_eq_getElem?_getD, List.getElem?_eq_getElem (show i < l.length by omega)]
def oQ (d m n : Int) : Bool := decide (n = d) || decide (m ≤ n)
attribute [local irreducible] wpK wpS uE wH wV wN wZ xD Le fq
theorem yIF (Γ : Gl) (d : Int) (r : Rl) (n : Int) : Go.Ot.Good Γ prog 157 [.t (num n), .rop [num d], .rop [.sl r.boxes.length (r.boxes.flatMap mbT), lst txt r.log, txt r.snap, num r.shares, lst num r.last]] [] (.t (bol (oQ d r.boxes.length n))) [] [] := by
 refine yR F.mix func157 (by rfl) ntmps157 ?_
 refine yD (yA rfl ?_)
 refine yF ?_
 refine yE (yB (yC (yD (yA rfl ?_))))
 rcases (show n = d ∨ n ≠ d by omega) with h | h
 ·skip
  iterate 4 refine yF ?_
  iterate 5 refine wJ ?_
  iterate 2 refine yF ?_
  refine yE (yB (yC (yO ?_)))
  refine ⟨.inr rfl, yP [] (by rw [results157]) ?_ ?_ ?_⟩ <;> simp [-List.map_set, -List.map_replicate, -List.reduceReplicate, -List.map_map, -List.map_drop, -List.map_take, num, bol, txt, w8, w16, w32, w64, lst, cls, xZ, xR, List.take_of_length_le, Wr.cellsL_len, wA, Wr.k_mk, Wr.n_mk, Wr.s_mk, Wr.l_mk, Wr.cellsL, Wr.z_eq, mbT, oQ, h]
 ·skip
  iterate 4 refine yF ?_
  iterate 5 refine xB ?_
  iterate 2 refine yF ?_
  refine yE (yB (yC (yO ?_)))
  refine ⟨.inr rfl, yP [] (by rw [results157]) ?_ ?_ ?_⟩ <;> simp [-List.map_set, -List.map_replicate, -List.reduceReplicate, -List.map_map, -List.map_drop, -List.map_take, num, bol, txt, w8, w16, w32, w64, lst, cls, xZ, xR, List.take_of_length_le, Wr.cellsL_len, wA, Wr.k_mk, Wr.n_mk, Wr.s_mk, Wr.l_mk, Wr.cellsL, Wr.z_eq, mbT, oQ, h]
theorem yEi (Γ : Gl) (c1 c2 : List T) (Q : Int → Bool) (hcl : ∀ n : Int, Go.Ot.Good Γ prog 157 [.t (num n), .rop c1, .rop c2] [] (.t (bol (Q n))) [] []) (l : List Int) (k : Nat) (hl : l.length ≤ 1000000) (hk : k < l.length) (hx : Q (l.getD k 0) = true) (hb : ∀ j, j < k → Q (l.getD j 0) = false) : Go.Ot.Good Γ prog 111 [.t (lst num l), .fn 157 [.rop c1, .rop c2]] [] (.t (num k)) [] [] := by
 refine yR F.mix func111 (by rfl) ntmps111 ?_
 refine yD (yA rfl ?_)
 refine yF ?_
 refine yE (yB (yC (yD (yD (yA rfl ?_)))))
 iterate 3 refine yF ?_
 refine yE (yB (yC (yH ?_)))
 refine xN (fun sl L (i : Nat) => ⟨setAll (setBad sl [4, 5, 6, 9, 10, 11, 12, 13, 14, 15, 16, 17, 18]) [(8, .t (num i))], Go.Ot.look (L)⟩) (fun i => i ≤ k) (fun i => k - i) (0) (wF ?_) ?_ ?_
 ·refine yT ?_ ?_ ?_ <;> simp [-List.map_set, -List.map_replicate, -List.reduceReplicate, -List.map_map, -List.map_drop, -List.map_take, num, bol, txt, w8, w16, w32, w64, lst, cls, xZ, xR, List.take_of_length_le]
 ·(first | omega | simp)
 ·intro i hi
  refine vE ?_
  refine yD (yA rfl ?_)
  refine yF ?_
  refine yE (yB (yC (yD (xF (yL (yC (yD (yH (yD (yA rfl ?_))))))))))
  iterate 2 refine yF ?_
  refine yE (yB (yC (yD (yA rfl ?_))))
  rcases (show i = k ∨ i < k by omega) with rfl | hik
  ·skip
   iterate 5 refine yF ?_
   obtain ⟨v, hv⟩ : ∃ v, l.getD i 0 = v := ⟨_, rfl⟩
   simp only [hv]
   rw [hv] at hx
   refine yU [] false ((by have h := hcl v; rw [hx] at h; exact h)) ?_
   refine yE (yB (yC (xF (yD (yA rfl ?_)))))
   iterate 2 refine yF ?_
   refine yE (yB (yC (yO (yI (yG (wI (yI (yG ?_))))))))
   refine ⟨.inr rfl, yP [] (by rw [results111]) ?_ ?_ ?_⟩ <;> simp [-List.map_set, -List.map_replicate, -List.reduceReplicate, -List.map_map, -List.map_drop, -List.map_take, num, bol, txt, w8, w16, w32, w64, lst, cls, xZ, xR, List.take_of_length_le]
  ·skip
   iterate 5 refine yF ?_
   obtain ⟨v, hv⟩ : ∃ v, l.getD i 0 = v := ⟨_, rfl⟩
   simp only [hv]
   have hx1 := hb i (by omega)
   rw [hv] at hx1
   refine yU [] false ((by have h := hcl v; rw [hx1] at h; exact h)) ?_
   refine yE (yB (yC (yJ (yL (yS (yC (yA rfl ?_)))))))
   iterate 2 refine yF ?_
   refine yE (yB ?_)
   refine xE (i + 1) (wF ?_) ?_ ?_
   ·refine yT ?_ ?_ ?_ <;> simp [-List.map_set, -List.map_replicate, -List.reduceReplicate, -List.map_map, -List.map_drop, -List.map_take, num, bol, txt, w8, w16, w32, w64, lst, cls, xZ, xR, List.take_of_length_le]
   ·(first | omega | (simp_all <;> omega))
   ·omega
theorem yEI (Γ : Gl) (c1 c2 : List T) (Q : Int → Bool) (hcl : ∀ n : Int, Go.Ot.Good Γ prog 157 [.t (num n), .rop c1, .rop c2] [] (.t (bol (Q n))) [] []) (l : List Int) (k : Nat) (hl : l.length ≤ 1000000) (hk : k < l.length) (hx : Q (l.getD k 0) = true) (hb : ∀ j, j < k → Q (l.getD j 0) = false) : Go.Ot.Good Γ prog 143 [.msl (.p 0) 0 l.length 1, .fn 157 [.rop c1, .rop c2]] [xZ 3 num (l)] (.msl (.p 0) 0 (fq Q l).length 1) [some (xZ 3 num (fq Q l))] [] := by
 have hft := yEx hb k (Nat.le_refl _) (by omega)
 have hf1 : fq Q (l.take (k + 1)) = l.take k := by rw [dX Q l hk, if_neg (by rw [hx]; decide), hft]
 have hr1 := row_one hk
 refine yR F.mix func143 (by rfl) ntmps143 ?_
 refine yD (yA rfl ?_)
 refine yF ?_
 refine yE (yB (yC (yD (yA rfl ?_))))
 iterate 2 refine yF ?_
 refine yU [.p 0] false (yEi Γ c1 c2 Q hcl l k hl hk hx hb) ?_
 refine yF ?_
 refine yE (yB (yC (yD (yD (yA rfl ?_)))))
 iterate 2 refine yF ?_
 refine yE (yB (yC (yJ (yL (yC (yD (yD (yA rfl ?_))))))))
 iterate 3 refine yF ?_
 refine yE (yB (yC (yH ?_)))
 refine xN (fun sl L (q : Nat × List Int × List Int) => ⟨setAll (setBad sl [7, 8, 9, 10, 11, 12, 13, 14, 15, 16, 17, 18, 19, 20, 21, 22, 23, 24, 25, 26, 27, 28, 29, 30, 31, 32, 33, 34, 35]) [(5, .t (num (fq Q (l.take q.1)).length)), (6, .t (num q.1))], Go.Ot.look (vD (.p 0) (xZ 3 num (q.2.2)) L)⟩) (fun q => k + 1 ≤ q.1 ∧ q.1 ≤ l.length ∧ (fq Q (l.take q.1)).length + q.2.1.length = q.1 ∧ q.2.1 ≠ [] ∧ q.2.2 = (fq Q (l.take q.1)) ++ q.2.1 ++ l.drop q.1) (fun q => l.length - q.1) ((k + 1, [l.getD k 0], l)) (wF ?_) ?_ ?_
 ·refine yT ?_ ?_ ?_ <;> simp [-List.map_set, -List.map_replicate, -List.reduceReplicate, -List.map_map, -List.map_drop, -List.map_take, num, bol, txt, w8, w16, w32, w64, lst, cls, xZ, xR, List.take_of_length_le, hf1, Nat.min_eq_left (Nat.le_of_lt hk)]
 ·refine ⟨Nat.le_refl _, by simp only []; omega, ?_, by simp, by simp only [hf1, hr1]⟩
  simp only [hf1, List.length_take, List.length_cons, List.length_nil]; omega
 ·rintro ⟨j, G, R⟩ ⟨hkj, hj, hsum, hne, hR⟩
  simp only at hkj hj hsum hne hR
  have hRl : R.length = l.length := by rw [hR]; simp; omega
  refine vE ?_
  refine yD (yD (yA rfl ?_))
  iterate 4 refine yF ?_
  refine yE (yB (yC ?_))
  refine vL (fun hc1 => ?_) (fun hc1 => ?_)
  ·(try simp only [zB] at hc1)
   refine yL (yC (yD (yH (yD (yA rfl ?_)))))
   iterate 4 refine yF ?_
   obtain ⟨v, hv⟩ : ∃ v, l.getD j 0 = v := ⟨_, rfl⟩
   have hv2 := yDu (F := fq Q (l.take j)) (G := G) (l := l) hsum (by omega)
   rw [hv, ← hR] at hv2
   simp only [hv2]
   refine yF ?_
   refine yE (yB (yC (yD (yA rfl ?_))))
   rcases hqv : Q v with _ | _
   ·skip
    iterate 2 refine yF ?_
    refine yU [] false ((by have h := hcl v; rw [hqv] at h; exact h)) ?_
    refine yF ?_
    refine yE (yB (yC (xF (yD (yA rfl ?_)))))
    iterate 5 refine yF ?_
    refine yE (yB (yC (yA rfl ?_)))
    iterate 3 refine yF ?_
    refine yE (yB (yS (yC (yA rfl ?_))))
    iterate 3 refine yF ?_
    refine yE (yB ?_)
    have hs := dX Q l (j := j) (by omega)
    rw [hv] at hs
    rw [if_pos hqv] at hs
    obtain ⟨g, G, rfl⟩ := List.exists_cons_of_ne_nil hne
    have hkp := yBp (F := fq Q (l.take j)) (G := G) (l := l) (j := j) (g := g) (by omega)
    rw [hv, ← hR] at hkp
    refine xE ((j + 1, G ++ [v], R.set (fq Q (l.take j)).length v)) (wF ?_) ?_ ?_
    ·refine yT ?_ ?_ ?_ <;> simp [-List.map_set, -List.map_replicate, -List.reduceReplicate, -List.map_map, -List.map_drop, -List.map_take, num, bol, txt, w8, w16, w32, w64, lst, cls, xZ, xR, List.take_of_length_le, hs]
    ·refine ⟨by simp only []; omega, by simp only []; omega, ?_, by simp, by simp only [hs]; exact hkp⟩
     simp only [hs, List.length_append, List.length_cons, List.length_nil, List.length_tail] at hsum ⊢; omega
    ·simp only []; omega
   ·skip
    iterate 2 refine yF ?_
    refine yU [] false ((by have h := hcl v; rw [hqv] at h; exact h)) ?_
    refine yF ?_
    refine yE (yB (yC (yJ (yL (yS (yC (yA rfl ?_)))))))
    iterate 3 refine yF ?_
    refine yE (yB ?_)
    have hs := dX Q l (j := j) (by omega)
    rw [hv] at hs
    rw [if_neg (by rw [hqv]; decide)] at hs
    have hkp := row_drop (F := fq Q (l.take j)) (G := G) (l := l) (j := j) (by omega)
    rw [hv, ← hR] at hkp
    refine xE ((j + 1, G ++ [v], R)) (wF ?_) ?_ ?_
    ·refine yT ?_ ?_ ?_ <;> simp [-List.map_set, -List.map_replicate, -List.reduceReplicate, -List.map_map, -List.map_drop, -List.map_take, num, bol, txt, w8, w16, w32, w64, lst, cls, xZ, xR, List.take_of_length_le, hs]
    ·refine ⟨by simp only []; omega, by simp only []; omega, ?_, by simp, by simp only [hs]; exact hkp⟩
     simp only [hs, List.length_append, List.length_cons, List.length_nil, List.length_tail] at hsum ⊢; omega
    ·simp only []; omega
  ·(try simp only [zB] at hc1)
   refine xQ (yM (yN (yK (yC (yD (yA rfl ?_))))))
   obtain rfl : j = l.length := by omega
   obtain ⟨FF, hFF⟩ : ∃ FF, fq Q l = FF := ⟨_, rfl⟩
   simp only [List.take_length, List.drop_length, List.append_nil, hFF] at hsum hR ⊢
   have hG : 0 < G.length := List.length_pos_iff.2 hne
   have hGn : l.length - FF.length = G.length := by omega
   subst hR
   iterate 3 refine yF ?_
   refine yAh (fN (x := .tmp 38) 29 rfl (F.u29) (z := .int .i64 0) (by intro w; kernel_rfl) rfl rfl (m := .p 0) (off := FF.length) (n := G.length) (ob := ⟨(FF.map num).map D.t ++ (G.map num).map D.t, 3, true, true⟩) (by first | rfl | (simp only [push_cast, hGn] <;> rfl)) (by first | rfl | (simp only [push_cast]; rfl)) rfl (by omega) (by simp) (dz := num 0) (fun w M => rfl)) ?_
   refine yE (yB ?_)
   rw [bQ]
   refine yDD (eG (.p 0) FF.length rfl rfl) (vE ?_)
   rw [fT]
   refine yD (yA rfl ?_)
   iterate 4 refine yF ?_
   refine yE (yB (yC (yO ?_)))
   refine ⟨.inr rfl, yP [(.p 0, .p 0)] (by rw [results143]) ?_ ?_ ?_⟩ <;> simp [-List.map_set, -List.map_replicate, -List.reduceReplicate, -List.map_map, -List.map_drop, -List.map_take, num, bol, txt, w8, w16, w32, w64, lst, cls, xZ, xR, List.take_of_length_le, hFF]
end Go.Proofs.Tryz
