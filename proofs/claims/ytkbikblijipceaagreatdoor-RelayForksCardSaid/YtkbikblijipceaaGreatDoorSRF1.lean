/- Contracts of this program's functions. -/
import Derived.Test.YtkbikblijipceaaGreatDoorSRC8
set_option maxHeartbeats 4000000
set_option maxRecDepth 100000
set_option linter.unusedVariables false
set_option linter.unusedSimpArgs false
namespace Go.Proofs.Tryz
open Go Go.Ot
theorem RG_bad : RG [110, 111, 110, 101] = none := by decide +kernel
theorem yG7 {k : Nat} {cs : List Rc} {i : Nat} (j : Nat) : ((rA k cs i).log.getD j []).length ≤ 1000000 := yG2 (cs := cs.take i) j
theorem yE7 (Γ : Gl) (hE : EG Γ) {k : Nat} (hk : k ≤ 100) (h0 : 0 < k) {cs : List Rc} (hl : cs.length ≤ 40) {i : Nat} (hi : i ≤ cs.length) (b : List UInt8) (hb : b.length ≤ 2000) (hcn : (rA k cs i).log.contains b = true) :
  Go.Ot.Good Γ prog 14 [.agg [.t (.sl (rA k cs i).boxes.length ((rA k cs i).boxes.flatMap mbT)), .t (lst txt (rA k cs i).log), .t (txt (rA k cs i).snap), .t (num (rA k cs i).shares), .t (lst num (rA k cs i).last)], .t (txt (Rq.p ⟨4, 0, 0, b⟩))] [] (.tup [.agg [.t (.sl (rA k cs i).boxes.length ((rA k cs i).boxes.flatMap mbT)), .t (lst txt (rA k cs i).log), .t (txt (rA k cs i).snap), .t (num (rA k cs i).shares), .t (lst num (rA k cs i).last)], .t (txt (Rp.p ⟨4, 0, (i : Int), []⟩))]) [] [] := by
 have hb2 : ((rA k cs i).boxes.length : Int) = k := by show (((tY k k).length : Nat) : Int) = _; rw [wV]
 have hln : ((rA k cs i).log.length : Int) = i := by show ((((cs.take i).map rcF).length : Nat) : Int) = _; rw [List.length_map, List.length_take]; omega
 have hG := yJd Γ (rA k cs i) (yFu hk hl) 0 0 b hcn
 rw [hln] at hG
 exact step_ok Γ hE (rA k cs i) (rA k cs i) (yFu hk hl) 4 0 0 i (by omega) (by omega) (by omega) b (by omega) [] (by simp [tsz]) (by simp) (yHb Γ (rA k cs i) (rA k cs i) 0 0 i (by rw [hb2]; omega) (by omega) b [] hG)
theorem pC (Γ : Gl) (hE : EG Γ) {k : Nat} (hk : k ≤ 100) (h0 : 0 < k) {cs : List Rc} (hl : cs.length ≤ 40) {i : Nat} (b : List UInt8) (hb : b.length ≤ 2000) (hcn : (rA k cs i).log.contains b = false) (hf : ∀ rs, chS ((rA k cs i).log ++ [b]) = some rs → ckB rs = false) :
  Go.Ot.Good Γ prog 14 [.agg [.t (.sl (rA k cs i).boxes.length ((rA k cs i).boxes.flatMap mbT)), .t (lst txt (rA k cs i).log), .t (txt (rA k cs i).snap), .t (num (rA k cs i).shares), .t (lst num (rA k cs i).last)], .t (txt (Rq.p ⟨4, 0, 0, b⟩))] [] (.tup [.agg [.t (.sl (rA k cs i).boxes.length ((rA k cs i).boxes.flatMap mbT)), .t (lst txt (rA k cs i).log), .t (txt (rA k cs i).snap), .t (num (rA k cs i).shares), .t (lst num (rA k cs i).last)], .t (txt (Rp.p ⟨4, 11, 0, []⟩))]) [] [] := by
 have hb2 : ((rA k cs i).boxes.length : Int) = k := by show (((tY k k).length : Nat) : Int) = _; rw [wV]
 have hg2 : (rA k cs i).log.length < 1000000 := by show ((cs.take i).map rcF).length < _; rw [List.length_map, List.length_take]; omega
 have key : ∀ hG, Go.Ot.Good Γ prog 14 [.agg [.t (.sl (rA k cs i).boxes.length ((rA k cs i).boxes.flatMap mbT)), .t (lst txt (rA k cs i).log), .t (txt (rA k cs i).snap), .t (num (rA k cs i).shares), .t (lst num (rA k cs i).last)], .t (txt (Rq.p ⟨4, 0, 0, b⟩))] [] (.tup [.agg [.t (.sl (rA k cs i).boxes.length ((rA k cs i).boxes.flatMap mbT)), .t (lst txt (rA k cs i).log), .t (txt (rA k cs i).snap), .t (num (rA k cs i).shares), .t (lst num (rA k cs i).last)], .t (txt (Rp.p ⟨4, 11, 0, []⟩))]) [] [] := fun hG =>
  yE6 Γ 11 hE (rA k cs i) (rA k cs i) (yFu hk hl) 4 0 0 0 (by omega) (by omega) (by omega) b (by omega) [] (by simp [tsz]) (by simp) (yIN Γ (rA k cs i) (rA k cs i) 0 0 0 (by rw [hb2]; omega) (by omega) b [] hG)
 rcases ho : chS ((rA k cs i).log ++ [b]) with _ | rs
 ·exact key (yGH Γ hE (rA k cs i) (yFu hk hl) 0 0 b hcn hg2 yG7 (by omega) ho)
 ·exact key (yGI Γ hE (rA k cs i) (yFu hk hl) 0 0 b hcn hg2 yG7 (by omega) rs ho (hf rs ho))
theorem yAB {cs : List Rc} {j : Nat} (h : j < cs.length) : cs.getD j default = cs[j] := by simp [List.getD_eq_getElem?_getD, List.getElem?_eq_getElem h]
theorem in_log {k : Nat} {cs : List Rc} {i j : Nat} (hi : i ≤ cs.length) (hj : j < i) : (rA k cs i).log.contains (rcF (cs.getD j default)) = true := by
 rw [List.contains_iff_mem, yAB (by omega)]
 refine List.mem_map.2 ⟨cs[j], ?_, rfl⟩
 rw [List.mem_iff_getElem]
 exact ⟨j, by rw [List.length_take]; omega, by rw [List.getElem_take]⟩
theorem yIh {k : Nat} {cs : List Rc} (hck : ckB cs = true) {i j : Nat} (hj : j < cs.length) (hij : i ≤ j) : (rA k cs i).log.contains (rcF (cs.getD j default)) = false := by
 rw [Bool.eq_false_iff]
 intro hm
 rw [List.contains_iff_mem] at hm
 obtain ⟨x, hx, he⟩ := List.mem_map.1 hm
 obtain ⟨q, hq, rfl⟩ := List.mem_iff_getElem.1 hx
 rw [List.length_take] at hq
 rw [List.getElem_take] at he
 have h1 := tV hck (i := q) (by omega)
 have h2 := tV hck hj
 have e := yDd (by rw [← yAB (by omega)]; exact h1.1) h2.1 he
 rw [yAB (by omega), e, h2.2] at h1
 have := h1.2; omega
theorem dS {k : Nat} {cs : List Rc} (hck : ckB cs = true) {i : Nat} : (rA k cs i).log.contains [110, 111, 110, 101] = false := by
 rw [Bool.eq_false_iff]
 intro hm
 rw [List.contains_iff_mem] at hm
 obtain ⟨x, hx, he⟩ := List.mem_map.1 hm
 have := yEH (nQ hck (List.mem_of_mem_take hx))
 rw [he, RG_bad] at this; cases this
theorem yBE {k : Nat} {cs : List Rc} {i : Nat} : ∀ rs, chS ((rA k cs i).log ++ [[110, 111, 110, 101]]) = some rs → ckB rs = false := fun rs h => by
 have : chS ((rA k cs i).log ++ [[110, 111, 110, 101]]) = none := yHh (i := (rA k cs i).log.length) (by rw [List.length_append]; simp) (by
  rw [List.getD_eq_getElem?_getD, List.getElem?_append_right (Nat.le_refl _), Nat.sub_self]; exact RG_bad)
 rw [this] at h; cases h
theorem yHI {k : Nat} {cs : List Rc} (hck : ckB cs = true) {i : Nat} (hi : i + 1 < cs.length) : ∀ rs, chS ((rA k cs i).log ++ [rcF (cs.getD (i + 1) default)]) = some rs → ckB rs = false := fun rs h => by
 have e : (rA k cs i).log ++ [rcF (cs.getD (i + 1) default)] = (cs.take i ++ [cs.getD (i + 1) default]).map rcF := by rw [List.map_append]; rfl
 have hm : ∀ c ∈ cs.take i ++ [cs.getD (i + 1) default], rcP c := fun c hc => by
  rcases List.mem_append.1 hc with hc | hc
  ·exact nQ hck (List.mem_of_mem_take hc)
  ·rw [List.mem_singleton.1 hc]; exact (tV hck hi).1
 rw [e, yHg hm] at h
 obtain rfl := Option.some.inj h
 rw [Bool.eq_false_iff]
 intro hk
 have ht : (cs.take i).length = i := by rw [List.length_take]; omega
 have h1 := (tV hk (i := (cs.take i).length) (by rw [List.length_append]; simp)).2
 rw [kO, (tV hck hi).2, ht] at h1
 omega
theorem dA {k : Nat} {cs : List Rc} {i : Nat} (h : i ≤ cs.length) : ((rA k cs i).log.length : Int) = i := by
 show ((((cs.take i).map rcF).length : Nat) : Int) = _
 rw [List.length_map, List.length_take]; omega
attribute [local simp] num bol txt w8 w16 w32 w64 lst cls wE xZ List.take_of_length_le
attribute [local irreducible] wpK wpS uI wH wW wM vC xB Le rdS lpW rdW got tB mayW uZ putW nb u64 qV GQ GP tsz wTs Rq.p Rp.p
theorem yDs (Γ : Gl)  : Go.Ot.Good Γ prog 13 [.t (num 5)] [] (.agg [.t (.sl (sN 5).boxes.length ((sN 5).boxes.flatMap mbT)), .t (lst txt (sN 5).log), .t (txt (sN 5).snap), .t (num (sN 5).shares), .t (lst num (sN 5).last)]) [] [] := by
 refine yR F.mix func13 (by rfl) ntmps13 ?_
 refine yD (yA rfl ?_)
 refine yF ?_
 refine yE (yB (yC (yD (yA rfl ?_))))
 iterate 3 refine yF ?_
 simp only [show (max (1 : Int) (min 5 8)) = 5 from by decide]
 refine yF ?_
 refine yE (yB (yC (yD (yA rfl ?_))))
 iterate 7 refine yW ?_
 refine yE (xP (by kernel_rfl) (yC (yD (yD (yA rfl ?_)))))
 iterate 4 refine yF ?_
 refine yE (yB (yC (yI ?_)))
 refine xJ (fun sl L (i : Nat) => ⟨setAll (setBad sl [0, 4, 5, 6, 7, 8, 9, 10, 11, 12, 13, 14, 17, 18, 19, 20, 21, 22, 23, 24]) [(16, .t (num i))], Go.Ot.look (vJ (.n 9) (wI (tY 5 i)) (vJ (.r 2 5 0) (xZ 31 [.msl (.n 9) 0 5 2, .t (.v (.slice none 0 0)), .t (txt []), .t (num 0), .msl (.r 2 3 0) 0 5 1]) (lZ (.r 2 1 0) L)))⟩) (fun i => i ≤ 5) (fun i => 5 - i) (0) (wF ?_) ?_ ?_
 ·refine wQ [(.r 0 0 0, .r 0 0 0), (.r 2 5 0, .r 2 5 0), (.n 9, .r 2 1 0), (.r 2 3 0, .r 2 3 0)] ?_ ?_ ?_ <;> simp [mbT, sN, wI, tY, mbT, List.replicate] <;> (try omega)
 ·(first | omega | simp)
 ·intro i hi
  refine vL ?_
  refine yD (yA rfl ?_)
  refine yF ?_
  refine yE (yB (yC (yD ?_)))
  refine vM (fun hc0 => ?_) (fun hc0 => ?_)
  ·(try simp only [Bool.and_eq_true, Bool.or_eq_true, Bool.or_eq_false_iff, Bool.not_eq_true', Bool.not_eq_false', xH, xI, Bool.and_eq_false_imp, beq_iff_eq, beq_eq_false_iff_ne, ne_eq] at hc0)
   refine yK (yC (yD (yI (yD (yA rfl ?_)))))
   iterate 2 refine yF ?_
   refine yE (yB (yC (yA rfl ?_)))
   have hnx := mP (k := 5) (i := i) (by omega)
   iterate 6 refine yF ?_
   refine yE (yB (yS (yC (yA rfl ?_))))
   iterate 2 refine yF ?_
   refine yE (yB ?_)
   refine xF (i + 1) (wF ?_) ?_ ?_
   ·refine wQ [(.r 0 0 0, .r 0 0 0), (.r 2 5 0, .r 2 5 0), (.n 9, .n 9), (.r 2 3 0, .r 2 3 0)] ?_ ?_ ?_ <;> simp [mbT, sN, wI, hnx] <;> (try omega)
   ·(first | omega | (simp_all <;> omega))
   ·(first | omega | (simp only []; omega))
  ·(try simp only [Bool.and_eq_true, Bool.or_eq_true, Bool.or_eq_false_iff, Bool.not_eq_true', Bool.not_eq_false', xH, xI, Bool.and_eq_false_imp, beq_iff_eq, beq_eq_false_iff_ne, ne_eq] at hc0)
   refine xQ (yM (yN (yL (yC (yD (yA rfl ?_))))))
   have hil : i = 5 := by omega
   subst hil
   have hal := jO (wV 5 5)
   have hbl := wV 5 5
   iterate 2 refine yF ?_
   refine yE (yB (yC (yP ?_)))
   refine ⟨.inr rfl, yQ [] (by rw [results13]) ?_ ?_ ?_⟩ <;> simp [mbT, sN, hal, hbl, pH, -List.length_flatMap, List.replicate]
end Go.Proofs.Tryz

namespace Go.Proofs.Tryz
open Go Go.Ot
attribute [local simp] num bol txt w8 w16 w32 w64 lst cls wE xZ List.take_of_length_le
attribute [local irreducible] wpK wpS uI wH wW wM vC xB Le rdS lpW rdW got tB mayW uZ putW nb u64 qV GQ GP tsz wTs Rq.p Rp.p rA lgE rcF ckB tY
theorem yCm (Γ : Gl) (hE : EG Γ) (ns : List UInt8) (at_ how : UInt8) (hn : ns.length ≤ 9223372036854775807) : Go.Ot.Good Γ prog 4 [.t (lst w8 ns), .t (w8 at_), .t (w8 how)] [] (.t (bol true)) [] [] := by
 refine yR F.mix func4 (by rfl) ntmps4 ?_
 refine yD (yA rfl ?_)
 refine yF ?_
 refine yE (yB (yC (yD (yD (yA rfl ?_)))))
 iterate 3 refine yF ?_
 refine yE (yB (yC ?_))
 refine vM (fun hc0 => ?_) (fun hc0 => ?_)
 ·(try simp only [Bool.and_eq_true, Bool.or_eq_true, Bool.or_eq_false_iff, Bool.not_eq_true', Bool.not_eq_false', xH, xI, Bool.and_eq_false_imp, beq_iff_eq, beq_eq_false_iff_ne, ne_eq] at hc0)
  refine yD (yA rfl ?_)
  refine yU [] false (lN Γ hE) ?_
  refine yF ?_
  refine yE (yB (yC (yP (yG ?_))))
  refine ⟨.inr rfl, yQ [] (by rw [results4]) ?_ ?_ ?_⟩ <;> simp [mbT, qA]
 ·(try simp only [Bool.and_eq_true, Bool.or_eq_true, Bool.or_eq_false_iff, Bool.not_eq_true', Bool.not_eq_false', xH, xI, Bool.and_eq_false_imp, beq_iff_eq, beq_eq_false_iff_ne, ne_eq] at hc0)
  refine yK (yC (yD (yA rfl ?_)))
  obtain ⟨cs, hcs⟩ : ∃ cs, lgE [115, 101, 99, 114, 101, 116] [109, 97, 115, 116, 101, 114] ns = cs := ⟨_, rfl⟩
  have hck : ckB cs = true := by rw [← hcs]; exact lgE_ck _ _ _
  have hln : 1 ≤ cs.length ∧ cs.length ≤ 8 := by rw [← hcs, yIo]; omega
  refine yF ?_
  refine yU [] true ((by have h := log_rc Γ [115, 101, 99, 114, 101, 116] [109, 97, 115, 116, 101, 114] (by decide) (by decide) ns hn; rw [hcs] at h; exact h)) ?_
  refine yF ?_
  refine yE (yB (yC (yD (yA rfl ?_))))
  have ha8 := at_.toNat_lt
  have hh8 := how.toNat_lt
  obtain ⟨kk, hkk⟩ : ∃ d : Nat, at_.toNat % (cs.length + 1) = d := ⟨_, rfl⟩
  have hkl : kk ≤ cs.length := by have := Nat.mod_lt at_.toNat (show 0 < cs.length + 1 by omega); omega
  have hkt : (at_.toNat : Int).tmod ((cs.length : Int) + 1) = (kk : Int) := by have h := tmodn at_.toNat (cs.length + 1); rw [hkk] at h; exact h
  have hkm : (at_.toNat : Int) % ((cs.length : Int) + 1) = (kk : Int) := by have h := Int.natCast_emod at_.toNat (cs.length + 1); rw [hkk] at h; exact h.symm
  iterate 5 refine yF ?_
  refine yF (hs := by (simp (disch := first | omega | (simp only [List.length_drop, List.length_take, List.length_map, List.length_append, List.length_cons, List.length_nil, List.length_replicate, List.length_set] <;> omega) | (simp only [push_cast] <;> omega) | fail) only [push_cast, reduceCtorEq, Nat.reduceAdd, Nat.reduceSub, Nat.reduceMul, Nat.reduceEqDiff, Nat.reduceLT, Nat.reduceLeDiff, Nat.reduceMod, Nat.reduceDiv, Int.reduceLE, Int.reduceLT, Int.reduceEq, Int.reduceToNat, Int.reduceAdd, Int.reduceSub, Int.reduceMul, Int.reduceNeg, hkt, hkm] <;> rfl)) ?_
  refine yF ?_
  refine yE (yB (yC (yD (yA rfl ?_))))
  refine yU [] true (yDs Γ) ?_
  iterate 2 refine yF ?_
  refine yE (yB (yC (yD (yD (yA rfl ?_)))))
  refine yF ?_
  refine yE (yB (yC (yI ?_)))
  refine xJ (fun sl L (i : Nat) => ⟨setAll (setBad sl [0, 1, 17, 18, 19, 20, 21, 22, 23, 24, 25, 26, 27, 28, 29, 30, 31, 32, 33, 34, 35, 36, 37, 38, 39, 40, 41, 42, 43, 44, 45, 46]) [(10, .t (num i))], Go.Ot.look (vJ (.r 5 1 0) (xZ 31 [.t (.sl (rA 5 cs i).boxes.length ((rA 5 cs i).boxes.flatMap mbT)), .t (lst txt (rA 5 cs i).log), .t (txt (rA 5 cs i).snap), .t (num (rA 5 cs i).shares), .t (lst num (rA 5 cs i).last)]) L)⟩) (fun i => i ≤ kk) (fun i => kk - i) (0) (wF ?_) ?_ ?_
  ·refine wQ [(.r 5 1 0, .r 5 1 0)] ?_ ?_ ?_ <;> simp [mbT, qA, rA_0]
  ·(first | omega | simp)
  ·intro i hi
   refine vL ?_
   refine yD (yD (yA rfl ?_))
   iterate 3 refine yF ?_
   refine yE (yB (yC ?_))
   refine vM (fun hc1 => ?_) (fun hc1 => ?_)
   ·(try simp only [Bool.and_eq_true, Bool.or_eq_true, Bool.or_eq_false_iff, Bool.not_eq_true', Bool.not_eq_false', xH, xI, Bool.and_eq_false_imp, beq_iff_eq, beq_eq_false_iff_ne, ne_eq] at hc1)
    refine yK (yC (yD (yI (yA rfl ?_))))
    have hil : i < cs.length := by omega
    obtain ⟨c, hc⟩ : ∃ c, cs.getD i default = c := ⟨_, rfl⟩
    have hcp := (tV hck hil).1
    rw [hc] at hcp
    have hc2 := sK c
    iterate 5 refine yW ?_
    simp only [hc]
    refine yV [] false (yBZ Γ c hcp) ?_
    refine yW ?_
    refine yV [] false (nL Γ ⟨4, 0, 0, rcF c⟩) ?_ (hv := by (simp (disch := first | omega | (simp only [List.length_drop, List.length_take, List.length_map, List.length_append, List.length_cons, List.length_nil, List.length_replicate, List.length_set] <;> omega) | fail) [-List.map_map, -List.map_drop, -List.map_take, VwL_cons, xN, xY, vU, xV, xW, xU, Vw_agg, xS, xX, xC, VwL_refl_map, xA, xL, xM, wK, xK, yZ, xE, yY, VwTs_app, List.take_of_length_le, srcL, notIn, ObsVw, SrcOk, pOk, Go.Ot.look, resP, resN, ev, evc, mkS, push_cast, List.take_of_length_le, qA] <;> (try omega)))
    refine yV [] true ((by have h := cH Γ hE (k := 5) (by decide) hck hil 0 (by decide); rw [hc] at h; exact h)) ?_ (hv := by (simp (maxSteps := 2000000) (disch := first | omega | (simp only [List.length_drop, List.length_take, List.length_map, List.length_append, List.length_cons, List.length_nil, List.length_replicate, List.length_set] <;> omega) | fail) [-List.map_map, -List.map_drop, -List.map_take, VwL_cons, xN, xY, vU, xV, xW, xU, Vw_agg, xS, xX, xC, VwL_refl_map, xA, xL, xM, wK, xK, yZ, xE, yY, VwTs_app, List.take_of_length_le, srcL, notIn, ObsVw, SrcOk, pOk, Go.Ot.look, resP, resN, ev, evc, mkS, push_cast, List.take_of_length_le] <;> (try omega)))
    iterate 4 refine yW ?_
    refine yE (xP (by kernel_rfl) (yS (yC (yA rfl ?_))))
    iterate 3 refine yF ?_
    refine yE (yB ?_)
    refine xF (i + 1) (wF ?_) ?_ ?_
    ·refine wQ [(.r 5 1 0, .r 5 1 0)] ?_ ?_ ?_ <;> simp [mbT, qA]
    ·(first | omega | (simp_all <;> omega))
    ·(first | omega | (simp only []; omega))
   ·(try simp only [Bool.and_eq_true, Bool.or_eq_true, Bool.or_eq_false_iff, Bool.not_eq_true', Bool.not_eq_false', xH, xI, Bool.and_eq_false_imp, beq_iff_eq, beq_eq_false_iff_ne, ne_eq] at hc1)
    refine xQ (yM (yN (yL (yC (yD (yD (yA rfl ?_)))))))
    have hil : kk = i := by omega
    subst hil
    have hlk := dA (k := 5) hkl
    iterate 4 refine yF ?_
    refine yF (hs := by (simp (disch := first | omega | (simp only [List.length_drop, List.length_take, List.length_map, List.length_append, List.length_cons, List.length_nil, List.length_replicate, List.length_set] <;> omega) | (simp only [push_cast] <;> omega) | fail) only [push_cast, reduceCtorEq, Nat.reduceAdd, Nat.reduceSub, Nat.reduceMul, Nat.reduceEqDiff, Nat.reduceLT, Nat.reduceLeDiff, Nat.reduceMod, Nat.reduceDiv, Int.reduceLE, Int.reduceLT, Int.reduceEq, Int.reduceToNat, Int.reduceAdd, Int.reduceSub, Int.reduceMul, Int.reduceNeg, hlk] <;> rfl)) ?_
    refine yE (yB (yC (yJ (yK (yC (yD (yA rfl ?_)))))))
    iterate 4 refine yF ?_
    refine yE (yB (yC ?_))
    refine jS (fun sl L (q : List UInt8 × Int × Int × Rl) => ⟨setAll (setBad sl [0, 1, 2, 7, 8, 10, 17, 18, 19, 20, 21, 22, 23, 24, 25, 26, 27, 28, 29, 30, 31, 32, 33, 34, 35, 36, 37, 38, 39, 40, 41, 42, 43, 44, 45, 46, 47, 48, 49, 50, 51, 52, 53, 54, 55, 56, 57, 58, 59, 60, 61, 62, 63, 64, 65, 66, 67, 68, 69, 70, 71, 72, 73, 74, 75, 76, 77, 78, 79, 80, 81, 82, 83, 84, 85, 86, 87, 88, 89, 90, 91, 92, 93, 94, 95, 96, 97, 98, 99, 100, 101, 102, 103]) [(11, .t (txt q.1)), (12, .t (num q.2.1)), (13, .t (num q.2.2.1))], Go.Ot.look (L)⟩) (fun q => q.1.length ≤ 2000 ∧ ((q.2.1 = 0 ∧ Go.Ot.Good Γ prog 14 [.agg [.t (.sl (rA 5 cs kk).boxes.length ((rA 5 cs kk).boxes.flatMap mbT)), .t (lst txt (rA 5 cs kk).log), .t (txt (rA 5 cs kk).snap), .t (num (rA 5 cs kk).shares), .t (lst num (rA 5 cs kk).last)], .t (txt (Rq.p ⟨4, 0, 0, q.1⟩))] [] (.tup [.agg [.t (.sl q.2.2.2.boxes.length (q.2.2.2.boxes.flatMap mbT)), .t (lst txt q.2.2.2.log), .t (txt q.2.2.2.snap), .t (num q.2.2.2.shares), .t (lst num q.2.2.2.last)], .t (txt (Rp.p ⟨4, 0, q.2.2.1, []⟩))]) [] [] ∧ (q.2.2.2.log.length : Int) = q.2.2.1 ∧ 0 ≤ q.2.2.1 ∧ q.2.2.1 ≤ 100) ∨ (q.2.1 = 11 ∧ Go.Ot.Good Γ prog 14 [.agg [.t (.sl (rA 5 cs kk).boxes.length ((rA 5 cs kk).boxes.flatMap mbT)), .t (lst txt (rA 5 cs kk).log), .t (txt (rA 5 cs kk).snap), .t (num (rA 5 cs kk).shares), .t (lst num (rA 5 cs kk).last)], .t (txt (Rq.p ⟨4, 0, 0, q.1⟩))] [] (.tup [.agg [.t (.sl (rA 5 cs kk).boxes.length ((rA 5 cs kk).boxes.flatMap mbT)), .t (lst txt (rA 5 cs kk).log), .t (txt (rA 5 cs kk).snap), .t (num (rA 5 cs kk).shares), .t (lst num (rA 5 cs kk).last)], .t (txt (Rp.p ⟨4, 11, 0, []⟩))]) [] [] ∧ q.2.2.1 = kk))) ?_ ?_
    ·skip
     refine yI (yD (yA rfl ?_))
     obtain ⟨H, hH, hH0, hH3⟩ : ∃ H : Int, (how.toNat : Int) % 4 = H ∧ 0 ≤ H ∧ H ≤ 3 := ⟨_, rfl, by omega, by omega⟩
     have hHt : (how.toNat : Int).tmod 4 = H := by rw [Int.tmod_eq_emod_of_nonneg (by omega)]; exact hH
     rcases (show (H = 0 ∧ 0 < kk) ∨ (H = 1 ∧ kk < cs.length) ∨ (H = 2 ∧ kk + 1 < cs.length) ∨ (H = 0 ∧ kk = 0) ∨ (H = 1 ∧ kk = cs.length) ∨ (H = 2 ∧ cs.length ≤ kk + 1) ∨ H = 3 from by omega) with ⟨h1, h2⟩ | ⟨h1, h2⟩ | ⟨h1, h2⟩ | ⟨h1, h2⟩ | ⟨h1, h2⟩ | ⟨h1, h2⟩ | h1
     ·obtain ⟨y, hy⟩ : ∃ y, how.toNat / 4 = y := ⟨_, rfl⟩
      obtain ⟨x, hx⟩ : ∃ x, y % kk = x := ⟨_, rfl⟩
      have hxk : x < kk := by rw [← hx]; exact Nat.mod_lt _ h2
      have hyt : (how.toNat : Int).tdiv 4 = (y : Int) := by rw [Int.tdiv_eq_ediv_of_nonneg (by omega)]; omega
      have hye : (how.toNat : Int) / 4 = (y : Int) := by omega
      have hxt : (y : Int).tmod (kk : Int) = (x : Int) := by rw [tmodn, hx]
      have hxe : (y : Int) % (kk : Int) = (x : Int) := by rw [← Int.natCast_emod, hx]
      obtain ⟨c, hc⟩ : ∃ c, cs.getD x default = c := ⟨_, rfl⟩
      have hcp := (tV hck (i := x) (by omega)).1
      rw [hc] at hcp
      have hc2 := sK c
      refine yF ?_
      refine yF (hs := by (simp (disch := first | omega | (simp only [List.length_drop, List.length_take, List.length_map, List.length_append, List.length_cons, List.length_nil, List.length_replicate, List.length_set] <;> omega) | (simp only [push_cast] <;> omega) | fail) only [push_cast, reduceCtorEq, Nat.reduceAdd, Nat.reduceSub, Nat.reduceMul, Nat.reduceEqDiff, Nat.reduceLT, Nat.reduceLeDiff, Nat.reduceMod, Nat.reduceDiv, Int.reduceLE, Int.reduceLT, Int.reduceEq, Int.reduceToNat, Int.reduceAdd, Int.reduceSub, Int.reduceMul, Int.reduceNeg, hHt, hH, h1] <;> rfl)) ?_
      iterate 2 refine yF ?_
      iterate 2 refine yX ?_
      iterate 2 refine yF ?_
      refine yE (yB (yC (xD (yD (yA rfl ?_)))))
      iterate 3 refine yF ?_
      refine yF (hs := by (simp (disch := first | omega | (simp only [List.length_drop, List.length_take, List.length_map, List.length_append, List.length_cons, List.length_nil, List.length_replicate, List.length_set] <;> omega) | (simp only [push_cast] <;> omega) | fail) only [push_cast, reduceCtorEq, Nat.reduceAdd, Nat.reduceSub, Nat.reduceMul, Nat.reduceEqDiff, Nat.reduceLT, Nat.reduceLeDiff, Nat.reduceMod, Nat.reduceDiv, Int.reduceLE, Int.reduceLT, Int.reduceEq, Int.reduceToNat, Int.reduceAdd, Int.reduceSub, Int.reduceMul, Int.reduceNeg, hyt, hye] <;> rfl)) ?_
      refine yF ?_
      refine yF (hs := by (simp (disch := first | omega | (simp only [List.length_drop, List.length_take, List.length_map, List.length_append, List.length_cons, List.length_nil, List.length_replicate, List.length_set] <;> omega) | (simp only [push_cast] <;> omega) | fail) only [push_cast, reduceCtorEq, Nat.reduceAdd, Nat.reduceSub, Nat.reduceMul, Nat.reduceEqDiff, Nat.reduceLT, Nat.reduceLeDiff, Nat.reduceMod, Nat.reduceDiv, Int.reduceLE, Int.reduceLT, Int.reduceEq, Int.reduceToNat, Int.reduceAdd, Int.reduceSub, Int.reduceMul, Int.reduceNeg, hxt, hxe] <;> rfl)) ?_
      iterate 2 refine yF ?_
      simp only [hc]
      refine yU [] false (yBZ Γ c hcp) ?_
      refine yF ?_
      refine yE (yB (yC (yA rfl ?_)))
      refine yF ?_
      refine yE (yB ?_)
      refine yS (vE ((rcF c, 0, (kk : Int), (rA 5 cs kk))) (wF ?_) ?_)
      ·refine yT ?_ ?_ ?_ <;> simp [mbT, qA]
      ·exact ⟨hc2, .inl ⟨rfl, (by have h := yE7 Γ hE (k := 5) (by decide) (by decide) (cs := cs) (by omega) hkl (rcF c) hc2 (by rw [← hc]; exact in_log hkl hxk); exact h), dA hkl, by show (0 : Int) ≤ kk; omega, by show (kk : Int) ≤ 100; omega⟩⟩
     ·have hkl2 : kk < cs.length := h2
      obtain ⟨c, hc⟩ : ∃ c, cs.getD kk default = c := ⟨_, rfl⟩
      have hcp := (tV hck hkl2).1
      rw [hc] at hcp
      have hc2 := sK c
      refine yF ?_
      refine yF (hs := by (simp (disch := first | omega | (simp only [List.length_drop, List.length_take, List.length_map, List.length_append, List.length_cons, List.length_nil, List.length_replicate, List.length_set] <;> omega) | (simp only [push_cast] <;> omega) | fail) only [push_cast, reduceCtorEq, Nat.reduceAdd, Nat.reduceSub, Nat.reduceMul, Nat.reduceEqDiff, Nat.reduceLT, Nat.reduceLeDiff, Nat.reduceMod, Nat.reduceDiv, Int.reduceLE, Int.reduceLT, Int.reduceEq, Int.reduceToNat, Int.reduceAdd, Int.reduceSub, Int.reduceMul, Int.reduceNeg, hHt, hH, h1] <;> rfl)) ?_
      iterate 2 refine yF ?_
      iterate 2 refine wG ?_
      iterate 2 refine yF ?_
      refine yE (yB (yC (yJ (yD (yA rfl ?_)))))
      refine yF ?_
      refine yF (hs := by (simp (disch := first | omega | (simp only [List.length_drop, List.length_take, List.length_map, List.length_append, List.length_cons, List.length_nil, List.length_replicate, List.length_set] <;> omega) | (simp only [push_cast] <;> omega) | fail) only [push_cast, reduceCtorEq, Nat.reduceAdd, Nat.reduceSub, Nat.reduceMul, Nat.reduceEqDiff, Nat.reduceLT, Nat.reduceLeDiff, Nat.reduceMod, Nat.reduceDiv, Int.reduceLE, Int.reduceLT, Int.reduceEq, Int.reduceToNat, Int.reduceAdd, Int.reduceSub, Int.reduceMul, Int.reduceNeg, hHt, hH, h1] <;> rfl)) ?_
      iterate 2 refine yF ?_
      iterate 4 refine yX ?_
      iterate 2 refine yF ?_
      refine yE (yB (yC (xD (yD (yA rfl ?_)))))
      iterate 4 refine yF ?_
      simp only [hc]
      refine yU [] false (yBZ Γ c hcp) ?_
      refine yF ?_
      refine yE (yB (yC (yD (yA rfl ?_))))
      refine yF ?_
      refine yE (yB (yC (yA rfl ?_)))
      iterate 3 refine yF ?_
      refine yE (yB ?_)
      refine yS (vE ((rcF c, 0, (kk : Int) + 1, rA 5 cs (kk + 1))) (wF ?_) ?_)
      ·refine yT ?_ ?_ ?_ <;> simp [mbT, qA]
      ·exact ⟨hc2, .inl ⟨rfl, (by have h := cH Γ hE (k := 5) (by decide) hck hkl2 0 (by decide); rw [hc] at h; exact h), dA hkl2, by show (0 : Int) ≤ (kk : Int) + 1; omega, by show (kk : Int) + 1 ≤ 100; omega⟩⟩
     ·have hkl2 : kk + 1 < cs.length := h2
      obtain ⟨x, hx⟩ : ∃ x, kk + 1 = x := ⟨_, rfl⟩
      have hxi : (kk : Int) + 1 = (x : Int) := by omega
      obtain ⟨c, hc⟩ : ∃ c, cs.getD (kk + 1) default = c := ⟨_, rfl⟩
      have hcp := (tV hck hkl2).1
      rw [hc] at hcp
      have hc2 := sK c
      have hcx : cs.getD x default = c := by rw [← hx]; exact hc
      have hxl : x < cs.length := by omega
      refine yF ?_
      refine yF (hs := by (simp (disch := first | omega | (simp only [List.length_drop, List.length_take, List.length_map, List.length_append, List.length_cons, List.length_nil, List.length_replicate, List.length_set] <;> omega) | (simp only [push_cast] <;> omega) | fail) only [push_cast, reduceCtorEq, Nat.reduceAdd, Nat.reduceSub, Nat.reduceMul, Nat.reduceEqDiff, Nat.reduceLT, Nat.reduceLeDiff, Nat.reduceMod, Nat.reduceDiv, Int.reduceLE, Int.reduceLT, Int.reduceEq, Int.reduceToNat, Int.reduceAdd, Int.reduceSub, Int.reduceMul, Int.reduceNeg, hHt, hH, h1] <;> rfl)) ?_
      iterate 2 refine yF ?_
      iterate 2 refine wG ?_
      iterate 2 refine yF ?_
      refine yE (yB (yC (yJ (yD (yA rfl ?_)))))
      refine yF ?_
      refine yF (hs := by (simp (disch := first | omega | (simp only [List.length_drop, List.length_take, List.length_map, List.length_append, List.length_cons, List.length_nil, List.length_replicate, List.length_set] <;> omega) | (simp only [push_cast] <;> omega) | fail) only [push_cast, reduceCtorEq, Nat.reduceAdd, Nat.reduceSub, Nat.reduceMul, Nat.reduceEqDiff, Nat.reduceLT, Nat.reduceLeDiff, Nat.reduceMod, Nat.reduceDiv, Int.reduceLE, Int.reduceLT, Int.reduceEq, Int.reduceToNat, Int.reduceAdd, Int.reduceSub, Int.reduceMul, Int.reduceNeg, hHt, hH, h1] <;> rfl)) ?_
      iterate 2 refine yF ?_
      iterate 4 refine wG ?_
      iterate 2 refine yF ?_
      refine yE (yB (yC (yJ (yD (yA rfl ?_)))))
      refine yF ?_
      refine yF (hs := by (simp (disch := first | omega | (simp only [List.length_drop, List.length_take, List.length_map, List.length_append, List.length_cons, List.length_nil, List.length_replicate, List.length_set] <;> omega) | (simp only [push_cast] <;> omega) | fail) only [push_cast, reduceCtorEq, Nat.reduceAdd, Nat.reduceSub, Nat.reduceMul, Nat.reduceEqDiff, Nat.reduceLT, Nat.reduceLeDiff, Nat.reduceMod, Nat.reduceDiv, Int.reduceLE, Int.reduceLT, Int.reduceEq, Int.reduceToNat, Int.reduceAdd, Int.reduceSub, Int.reduceMul, Int.reduceNeg, hHt, hH, h1] <;> rfl)) ?_
      iterate 2 refine yF ?_
      iterate 5 refine yX ?_
      iterate 2 refine yF ?_
      refine yE (yB (yC (xD (yA rfl ?_))))
      iterate 2 refine yF ?_
      refine yF (hs := by (simp (disch := first | omega | (simp only [List.length_drop, List.length_take, List.length_map, List.length_append, List.length_cons, List.length_nil, List.length_replicate, List.length_set] <;> omega) | (simp only [push_cast] <;> omega) | fail) only [push_cast, reduceCtorEq, Nat.reduceAdd, Nat.reduceSub, Nat.reduceMul, Nat.reduceEqDiff, Nat.reduceLT, Nat.reduceLeDiff, Nat.reduceMod, Nat.reduceDiv, Int.reduceLE, Int.reduceLT, Int.reduceEq, Int.reduceToNat, Int.reduceAdd, Int.reduceSub, Int.reduceMul, Int.reduceNeg, hxi] <;> rfl)) ?_
      iterate 2 refine yF ?_
      simp only [hcx]
      refine yU [] false (yBZ Γ c hcp) ?_
      refine yF ?_
      refine yE (yB ?_)
      refine yS (vE ((rcF c, 11, (kk : Int), (rA 5 cs kk))) (wF ?_) ?_)
      ·refine yT ?_ ?_ ?_ <;> simp [mbT, qA]
      ·exact ⟨hc2, .inr ⟨rfl, (by have h := pC Γ hE (k := 5) (by decide) (by decide) (cs := cs) (by omega) (rcF c) hc2 (by rw [← hc]; exact yIh (k := 5) (i := kk) hck hkl2 (by omega)) (by rw [← hc]; exact yHI hck hkl2); exact h), rfl⟩⟩
     ·skip
      refine yF ?_
      refine yF (hs := by (simp (disch := first | omega | (simp only [List.length_drop, List.length_take, List.length_map, List.length_append, List.length_cons, List.length_nil, List.length_replicate, List.length_set] <;> omega) | (simp only [push_cast] <;> omega) | fail) only [push_cast, reduceCtorEq, Nat.reduceAdd, Nat.reduceSub, Nat.reduceMul, Nat.reduceEqDiff, Nat.reduceLT, Nat.reduceLeDiff, Nat.reduceMod, Nat.reduceDiv, Int.reduceLE, Int.reduceLT, Int.reduceEq, Int.reduceToNat, Int.reduceAdd, Int.reduceSub, Int.reduceMul, Int.reduceNeg, hHt, hH, h1] <;> rfl)) ?_
      iterate 2 refine yF ?_
      iterate 2 refine yX ?_
      iterate 2 refine yF ?_
      refine yE (yB (yC (yJ (yD (yA rfl ?_)))))
      refine yF ?_
      refine yF (hs := by (simp (disch := first | omega | (simp only [List.length_drop, List.length_take, List.length_map, List.length_append, List.length_cons, List.length_nil, List.length_replicate, List.length_set] <;> omega) | (simp only [push_cast] <;> omega) | fail) only [push_cast, reduceCtorEq, Nat.reduceAdd, Nat.reduceSub, Nat.reduceMul, Nat.reduceEqDiff, Nat.reduceLT, Nat.reduceLeDiff, Nat.reduceMod, Nat.reduceDiv, Int.reduceLE, Int.reduceLT, Int.reduceEq, Int.reduceToNat, Int.reduceAdd, Int.reduceSub, Int.reduceMul, Int.reduceNeg, hHt, hH, h1] <;> rfl)) ?_
      iterate 2 refine yF ?_
      iterate 4 refine wG ?_
      iterate 2 refine yF ?_
      refine yE (yB (yC (yJ (yD (yA rfl ?_)))))
      refine yF ?_
      refine yF (hs := by (simp (disch := first | omega | (simp only [List.length_drop, List.length_take, List.length_map, List.length_append, List.length_cons, List.length_nil, List.length_replicate, List.length_set] <;> omega) | (simp only [push_cast] <;> omega) | fail) only [push_cast, reduceCtorEq, Nat.reduceAdd, Nat.reduceSub, Nat.reduceMul, Nat.reduceEqDiff, Nat.reduceLT, Nat.reduceLeDiff, Nat.reduceMod, Nat.reduceDiv, Int.reduceLE, Int.reduceLT, Int.reduceEq, Int.reduceToNat, Int.reduceAdd, Int.reduceSub, Int.reduceMul, Int.reduceNeg, hHt, hH, h1] <;> rfl)) ?_
      iterate 2 refine yF ?_
      iterate 5 refine wG ?_
      iterate 2 refine yF ?_
      refine yE (yB (yC (yJ (yK ?_))))
      refine yS (vE (([110, 111, 110, 101], 11, (kk : Int), (rA 5 cs kk))) (wF ?_) ?_)
      ·refine yT ?_ ?_ ?_ <;> simp [mbT, qA]
      ·exact ⟨by show 4 ≤ 2000; decide, .inr ⟨rfl, pC Γ hE (k := 5) (by decide) (by decide) (cs := cs) (by omega) [110, 111, 110, 101] (by decide) (dS hck) yBE, rfl⟩⟩
     ·skip
      refine yF ?_
      refine yF (hs := by (simp (disch := first | omega | (simp only [List.length_drop, List.length_take, List.length_map, List.length_append, List.length_cons, List.length_nil, List.length_replicate, List.length_set] <;> omega) | (simp only [push_cast] <;> omega) | fail) only [push_cast, reduceCtorEq, Nat.reduceAdd, Nat.reduceSub, Nat.reduceMul, Nat.reduceEqDiff, Nat.reduceLT, Nat.reduceLeDiff, Nat.reduceMod, Nat.reduceDiv, Int.reduceLE, Int.reduceLT, Int.reduceEq, Int.reduceToNat, Int.reduceAdd, Int.reduceSub, Int.reduceMul, Int.reduceNeg, hHt, hH, h1] <;> rfl)) ?_
      iterate 2 refine yF ?_
      iterate 2 refine wG ?_
      iterate 2 refine yF ?_
      refine yE (yB (yC (yJ (yD (yA rfl ?_)))))
      refine yF ?_
      refine yF (hs := by (simp (disch := first | omega | (simp only [List.length_drop, List.length_take, List.length_map, List.length_append, List.length_cons, List.length_nil, List.length_replicate, List.length_set] <;> omega) | (simp only [push_cast] <;> omega) | fail) only [push_cast, reduceCtorEq, Nat.reduceAdd, Nat.reduceSub, Nat.reduceMul, Nat.reduceEqDiff, Nat.reduceLT, Nat.reduceLeDiff, Nat.reduceMod, Nat.reduceDiv, Int.reduceLE, Int.reduceLT, Int.reduceEq, Int.reduceToNat, Int.reduceAdd, Int.reduceSub, Int.reduceMul, Int.reduceNeg, hHt, hH, h1] <;> rfl)) ?_
      iterate 2 refine yF ?_
      iterate 4 refine yX ?_
      iterate 2 refine yF ?_
      refine yE (yB (yC (yJ (yD (yA rfl ?_)))))
      refine yF ?_
      refine yF (hs := by (simp (disch := first | omega | (simp only [List.length_drop, List.length_take, List.length_map, List.length_append, List.length_cons, List.length_nil, List.length_replicate, List.length_set] <;> omega) | (simp only [push_cast] <;> omega) | fail) only [push_cast, reduceCtorEq, Nat.reduceAdd, Nat.reduceSub, Nat.reduceMul, Nat.reduceEqDiff, Nat.reduceLT, Nat.reduceLeDiff, Nat.reduceMod, Nat.reduceDiv, Int.reduceLE, Int.reduceLT, Int.reduceEq, Int.reduceToNat, Int.reduceAdd, Int.reduceSub, Int.reduceMul, Int.reduceNeg, hHt, hH, h1] <;> rfl)) ?_
      iterate 2 refine yF ?_
      iterate 5 refine wG ?_
      iterate 2 refine yF ?_
      refine yE (yB (yC (yJ (yK ?_))))
      refine yS (vE (([110, 111, 110, 101], 11, (kk : Int), (rA 5 cs kk))) (wF ?_) ?_)
      ·refine yT ?_ ?_ ?_ <;> simp [mbT, qA]
      ·exact ⟨by show 4 ≤ 2000; decide, .inr ⟨rfl, pC Γ hE (k := 5) (by decide) (by decide) (cs := cs) (by omega) [110, 111, 110, 101] (by decide) (dS hck) yBE, rfl⟩⟩
     ·skip
      refine yF ?_
      refine yF (hs := by (simp (disch := first | omega | (simp only [List.length_drop, List.length_take, List.length_map, List.length_append, List.length_cons, List.length_nil, List.length_replicate, List.length_set] <;> omega) | (simp only [push_cast] <;> omega) | fail) only [push_cast, reduceCtorEq, Nat.reduceAdd, Nat.reduceSub, Nat.reduceMul, Nat.reduceEqDiff, Nat.reduceLT, Nat.reduceLeDiff, Nat.reduceMod, Nat.reduceDiv, Int.reduceLE, Int.reduceLT, Int.reduceEq, Int.reduceToNat, Int.reduceAdd, Int.reduceSub, Int.reduceMul, Int.reduceNeg, hHt, hH, h1] <;> rfl)) ?_
      iterate 2 refine yF ?_
      iterate 2 refine wG ?_
      iterate 2 refine yF ?_
      refine yE (yB (yC (yJ (yD (yA rfl ?_)))))
      refine yF ?_
      refine yF (hs := by (simp (disch := first | omega | (simp only [List.length_drop, List.length_take, List.length_map, List.length_append, List.length_cons, List.length_nil, List.length_replicate, List.length_set] <;> omega) | (simp only [push_cast] <;> omega) | fail) only [push_cast, reduceCtorEq, Nat.reduceAdd, Nat.reduceSub, Nat.reduceMul, Nat.reduceEqDiff, Nat.reduceLT, Nat.reduceLeDiff, Nat.reduceMod, Nat.reduceDiv, Int.reduceLE, Int.reduceLT, Int.reduceEq, Int.reduceToNat, Int.reduceAdd, Int.reduceSub, Int.reduceMul, Int.reduceNeg, hHt, hH, h1] <;> rfl)) ?_
      iterate 2 refine yF ?_
      iterate 4 refine wG ?_
      iterate 2 refine yF ?_
      refine yE (yB (yC (yJ (yD (yA rfl ?_)))))
      refine yF ?_
      refine yF (hs := by (simp (disch := first | omega | (simp only [List.length_drop, List.length_take, List.length_map, List.length_append, List.length_cons, List.length_nil, List.length_replicate, List.length_set] <;> omega) | (simp only [push_cast] <;> omega) | fail) only [push_cast, reduceCtorEq, Nat.reduceAdd, Nat.reduceSub, Nat.reduceMul, Nat.reduceEqDiff, Nat.reduceLT, Nat.reduceLeDiff, Nat.reduceMod, Nat.reduceDiv, Int.reduceLE, Int.reduceLT, Int.reduceEq, Int.reduceToNat, Int.reduceAdd, Int.reduceSub, Int.reduceMul, Int.reduceNeg, hHt, hH, h1] <;> rfl)) ?_
      iterate 2 refine yF ?_
      iterate 5 refine yX ?_
      iterate 2 refine yF ?_
      refine yE (yB (yC (yJ (yK ?_))))
      refine yS (vE (([110, 111, 110, 101], 11, (kk : Int), (rA 5 cs kk))) (wF ?_) ?_)
      ·refine yT ?_ ?_ ?_ <;> simp [mbT, qA]
      ·exact ⟨by show 4 ≤ 2000; decide, .inr ⟨rfl, pC Γ hE (k := 5) (by decide) (by decide) (cs := cs) (by omega) [110, 111, 110, 101] (by decide) (dS hck) yBE, rfl⟩⟩
     ·skip
      refine yF ?_
      refine yF (hs := by (simp (disch := first | omega | (simp only [List.length_drop, List.length_take, List.length_map, List.length_append, List.length_cons, List.length_nil, List.length_replicate, List.length_set] <;> omega) | (simp only [push_cast] <;> omega) | fail) only [push_cast, reduceCtorEq, Nat.reduceAdd, Nat.reduceSub, Nat.reduceMul, Nat.reduceEqDiff, Nat.reduceLT, Nat.reduceLeDiff, Nat.reduceMod, Nat.reduceDiv, Int.reduceLE, Int.reduceLT, Int.reduceEq, Int.reduceToNat, Int.reduceAdd, Int.reduceSub, Int.reduceMul, Int.reduceNeg, hHt, hH, h1] <;> rfl)) ?_
      iterate 2 refine yF ?_
      iterate 2 refine wG ?_
      iterate 2 refine yF ?_
      refine yE (yB (yC (yJ (yD (yA rfl ?_)))))
      refine yF ?_
      refine yF (hs := by (simp (disch := first | omega | (simp only [List.length_drop, List.length_take, List.length_map, List.length_append, List.length_cons, List.length_nil, List.length_replicate, List.length_set] <;> omega) | (simp only [push_cast] <;> omega) | fail) only [push_cast, reduceCtorEq, Nat.reduceAdd, Nat.reduceSub, Nat.reduceMul, Nat.reduceEqDiff, Nat.reduceLT, Nat.reduceLeDiff, Nat.reduceMod, Nat.reduceDiv, Int.reduceLE, Int.reduceLT, Int.reduceEq, Int.reduceToNat, Int.reduceAdd, Int.reduceSub, Int.reduceMul, Int.reduceNeg, hHt, hH, h1] <;> rfl)) ?_
      iterate 2 refine yF ?_
      iterate 4 refine wG ?_
      iterate 2 refine yF ?_
      refine yE (yB (yC (yJ (yD (yA rfl ?_)))))
      refine yF ?_
      refine yF (hs := by (simp (disch := first | omega | (simp only [List.length_drop, List.length_take, List.length_map, List.length_append, List.length_cons, List.length_nil, List.length_replicate, List.length_set] <;> omega) | (simp only [push_cast] <;> omega) | fail) only [push_cast, reduceCtorEq, Nat.reduceAdd, Nat.reduceSub, Nat.reduceMul, Nat.reduceEqDiff, Nat.reduceLT, Nat.reduceLeDiff, Nat.reduceMod, Nat.reduceDiv, Int.reduceLE, Int.reduceLT, Int.reduceEq, Int.reduceToNat, Int.reduceAdd, Int.reduceSub, Int.reduceMul, Int.reduceNeg, hHt, hH, h1] <;> rfl)) ?_
      iterate 2 refine yF ?_
      iterate 5 refine wG ?_
      iterate 2 refine yF ?_
      refine yE (yB (yC (yJ (yK ?_))))
      refine yS (vE (([110, 111, 110, 101], 11, (kk : Int), (rA 5 cs kk))) (wF ?_) ?_)
      ·refine yT ?_ ?_ ?_ <;> simp [mbT, qA]
      ·exact ⟨by show 4 ≤ 2000; decide, .inr ⟨rfl, pC Γ hE (k := 5) (by decide) (by decide) (cs := cs) (by omega) [110, 111, 110, 101] (by decide) (dS hck) yBE, rfl⟩⟩
    ·rintro ⟨b, w, n, r'⟩ ⟨hbl, hq⟩
     simp only at hbl hq
     rcases hq with ⟨rfl, hG, hln2, hn0, hn1⟩ | ⟨rfl, hG, rfl⟩
     have g := yHk (k := 4) (d := 0) (n := n) (l := []) (by omega) (by omega) (by omega) (by simp) (by simp)
     rotate_left 1
     have g := yHk (k := 4) (d := 11) (n := 0) (l := []) (by omega) (by omega) (by omega) (by simp) (by simp)
     rotate_left 1
     ·refine vL ?_
      refine yD (yA rfl ?_)
      iterate 3 refine yW ?_
      refine yV [] false (nL Γ ⟨4, 0, 0, b⟩) ?_ (hv := by (simp (disch := first | omega | (simp only [List.length_drop, List.length_take, List.length_map, List.length_append, List.length_cons, List.length_nil, List.length_replicate, List.length_set] <;> omega) | fail) [-List.map_map, -List.map_drop, -List.map_take, VwL_cons, xN, xY, vU, xV, xW, xU, Vw_agg, xS, xX, xC, VwL_refl_map, xA, xL, xM, wK, xK, yZ, xE, yY, VwTs_app, List.take_of_length_le, srcL, notIn, ObsVw, SrcOk, pOk, Go.Ot.look, resP, resN, ev, evc, mkS, push_cast, List.take_of_length_le, qA] <;> (try omega)))
      refine yV [] true (hG) ?_ (hv := by (simp (maxSteps := 2000000) (disch := first | omega | (simp only [List.length_drop, List.length_take, List.length_map, List.length_append, List.length_cons, List.length_nil, List.length_replicate, List.length_set] <;> omega) | fail) [-List.map_map, -List.map_drop, -List.map_take, VwL_cons, xN, xY, vU, xV, xW, xU, Vw_agg, xS, xX, xC, VwL_refl_map, xA, xL, xM, wK, xK, yZ, xE, yY, VwTs_app, List.take_of_length_le, srcL, notIn, ObsVw, SrcOk, pOk, Go.Ot.look, resP, resN, ev, evc, mkS, push_cast, List.take_of_length_le] <;> (try omega)))
      iterate 6 refine yW ?_
      refine yE (xP (by kernel_rfl) (yC (yD (yA rfl ?_))))
      refine yF ?_
      refine yU [] true ((by have h := lR Γ (Rp.p ⟨4, 0, n, []⟩) g.2; rw [g.1, lH] at h; exact h)) ?_
      iterate 2 refine yF ?_
      refine yE (yB (yC (yD (yA rfl ?_))))
      iterate 3 refine yF ?_
      iterate 3 refine yX ?_
      refine wT [] false (eY Γ 0) ?_
      iterate 2 refine yX ?_
      iterate 2 refine yF ?_
      iterate 4 refine yX ?_
      refine yX (hs := by (simp (disch := first | omega | (simp only [List.length_drop, List.length_take, List.length_map, List.length_append, List.length_cons, List.length_nil, List.length_replicate, List.length_set] <;> omega) | (simp only [push_cast] <;> omega) | fail) only [push_cast, reduceCtorEq, Nat.reduceAdd, Nat.reduceSub, Nat.reduceMul, Nat.reduceEqDiff, Nat.reduceLT, Nat.reduceLeDiff, Nat.reduceMod, Nat.reduceDiv, Int.reduceLE, Int.reduceLT, Int.reduceEq, Int.reduceToNat, Int.reduceAdd, Int.reduceSub, Int.reduceMul, Int.reduceNeg, hln2] <;> rfl)) ?_
      iterate 2 refine yF ?_
      iterate 10 refine yX ?_
      iterate 7 refine wG ?_
      refine yX ?_
      iterate 2 refine yF ?_
      refine wT [] false (lN Γ hE) ?_
      iterate 2 refine yF ?_
      refine yE (yB (yC (yP ?_)))
      refine ⟨.inr rfl, yQ [] (by rw [results4]) ?_ ?_ ?_⟩ <;> simp [mbT, qA]
     ·refine vL ?_
      refine yD (yA rfl ?_)
      iterate 3 refine yW ?_
      refine yV [] false (nL Γ ⟨4, 0, 0, b⟩) ?_ (hv := by (simp (disch := first | omega | (simp only [List.length_drop, List.length_take, List.length_map, List.length_append, List.length_cons, List.length_nil, List.length_replicate, List.length_set] <;> omega) | fail) [-List.map_map, -List.map_drop, -List.map_take, VwL_cons, xN, xY, vU, xV, xW, xU, Vw_agg, xS, xX, xC, VwL_refl_map, xA, xL, xM, wK, xK, yZ, xE, yY, VwTs_app, List.take_of_length_le, srcL, notIn, ObsVw, SrcOk, pOk, Go.Ot.look, resP, resN, ev, evc, mkS, push_cast, List.take_of_length_le, qA] <;> (try omega)))
      refine yV [] true (hG) ?_ (hv := by (simp (maxSteps := 2000000) (disch := first | omega | (simp only [List.length_drop, List.length_take, List.length_map, List.length_append, List.length_cons, List.length_nil, List.length_replicate, List.length_set] <;> omega) | fail) [-List.map_map, -List.map_drop, -List.map_take, VwL_cons, xN, xY, vU, xV, xW, xU, Vw_agg, xS, xX, xC, VwL_refl_map, xA, xL, xM, wK, xK, yZ, xE, yY, VwTs_app, List.take_of_length_le, srcL, notIn, ObsVw, SrcOk, pOk, Go.Ot.look, resP, resN, ev, evc, mkS, push_cast, List.take_of_length_le] <;> (try omega)))
      iterate 6 refine yW ?_
      refine yE (xP (by kernel_rfl) (yC (yD (yA rfl ?_))))
      refine yF ?_
      refine yU [] true ((by have h := lR Γ (Rp.p ⟨4, 11, 0, []⟩) g.2; rw [g.1, lH] at h; exact h)) ?_
      iterate 2 refine yF ?_
      refine yE (yB (yC (yD (yA rfl ?_))))
      iterate 3 refine yF ?_
      iterate 3 refine yX ?_
      refine wT [] false (eY Γ 11) ?_
      iterate 2 refine yX ?_
      iterate 2 refine yF ?_
      iterate 4 refine yX ?_
      refine yX (hs := by (simp (disch := first | omega | (simp only [List.length_drop, List.length_take, List.length_map, List.length_append, List.length_cons, List.length_nil, List.length_replicate, List.length_set] <;> omega) | (simp only [push_cast] <;> omega) | fail) only [push_cast, reduceCtorEq, Nat.reduceAdd, Nat.reduceSub, Nat.reduceMul, Nat.reduceEqDiff, Nat.reduceLT, Nat.reduceLeDiff, Nat.reduceMod, Nat.reduceDiv, Int.reduceLE, Int.reduceLT, Int.reduceEq, Int.reduceToNat, Int.reduceAdd, Int.reduceSub, Int.reduceMul, Int.reduceNeg, hlk] <;> rfl)) ?_
      iterate 2 refine yF ?_
      iterate 3 refine yX ?_
      iterate 5 refine wG ?_
      iterate 7 refine yX ?_
      refine wT [] false (yBW Γ (rA 5 cs kk) (yFu (by decide) (by omega))) ?_
      iterate 2 refine yX ?_
      iterate 2 refine yF ?_
      refine wT [] false (lN Γ hE) ?_
      iterate 2 refine yF ?_
      refine yE (yB (yC (yP ?_)))
      refine ⟨.inr rfl, yQ [] (by rw [results4]) ?_ ?_ ?_⟩ <;> simp [mbT, qA]
end Go.Proofs.Tryz
