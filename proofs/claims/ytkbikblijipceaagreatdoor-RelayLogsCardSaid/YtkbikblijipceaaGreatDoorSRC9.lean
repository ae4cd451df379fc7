/- Contracts of this program's functions. -/
import Derived.Test.YtkbikblijipceaaGreatDoorSRC8
set_option maxHeartbeats 4000000
set_option maxRecDepth 100000
set_option linter.unusedVariables false
set_option linter.unusedSimpArgs false
namespace Go.Proofs.Tryz
open Go Go.Ot
attribute [local simp] num bol txt w8 w16 w32 w64 lst cls wE xZ List.take_of_length_le
attribute [local irreducible] wpK wpS uI wH wW wM vB xA Le rdS lpW rdW got tE mayW tA putW nb u64 qW GQ GP tsz wTs Rq.p Rp.p rA lgE rcF ckB sM lgQ
theorem yDD (Γ : Gl) (hE : EG Γ) (ns : List UInt8) (fr : UInt8) (hn : ns.length ≤ 9223372036854775807) : Go.Ot.Good Γ prog 7 [.t (lst w8 ns), .t (w8 fr)] [] (.t (bol true)) [] [] := by
 refine yQ F.mix func7 (by rfl) ntmps7 ?_
 refine yD (yA rfl ?_)
 refine yF ?_
 refine yE (yB (yC (yD (yD (yA rfl ?_)))))
 iterate 3 refine yF ?_
 refine yE (yB (yC ?_))
 refine vL (fun hc0 => ?_) (fun hc0 => ?_)
 ·(try simp only [Bool.and_eq_true, Bool.or_eq_true, Bool.or_eq_false_iff, Bool.not_eq_true', Bool.not_eq_false', xH, xI, Bool.and_eq_false_imp, beq_iff_eq, beq_eq_false_iff_ne, ne_eq] at hc0)
  refine yD (yA rfl ?_)
  refine yS [] false (fW Γ hE) ?_
  refine yF ?_
  refine yE (yB (yC (yP (yG ?_))))
  refine ⟨.inr rfl, yT [] (by rw [results7]) ?_ ?_ ?_⟩ <;> simp [-List.map_set, -List.map_replicate, -List.reduceReplicate, -List.map_map, -List.map_drop, -List.map_take, mbT, qA]
 ·(try simp only [Bool.and_eq_true, Bool.or_eq_true, Bool.or_eq_false_iff, Bool.not_eq_true', Bool.not_eq_false', xH, xI, Bool.and_eq_false_imp, beq_iff_eq, beq_eq_false_iff_ne, ne_eq] at hc0)
  refine yK (yC (yD (yA rfl ?_)))
  obtain ⟨cs, hcs⟩ : ∃ cs, lgE [115, 101, 99, 114, 101, 116] [109, 97, 115, 116, 101, 114] ns = cs := ⟨_, rfl⟩
  have hck : ckB cs = true := by rw [← hcs]; exact lgE_ck _ _ _
  have hln : 1 ≤ cs.length ∧ cs.length ≤ 8 := by rw [← hcs, yIa]; omega
  refine yF ?_
  refine yS [] true ((by have h := log_rc Γ [115, 101, 99, 114, 101, 116] [109, 97, 115, 116, 101, 114] (by decide) (by decide) ns hn; rw [hcs] at h; exact h)) ?_
  refine yF ?_
  refine yE (yB (yC (yD (yA rfl ?_))))
  refine yS [] true (yDo Γ) ?_
  iterate 2 refine yF ?_
  refine yE (yB (yC (yD (yD (yA rfl ?_)))))
  refine yF ?_
  refine yE (yB (yC (yI ?_)))
  refine xJ (fun sl L (i : Nat) => ⟨setAll (setBad sl [0, 13, 14, 15, 16, 17, 18, 19, 20, 21, 22, 23, 24, 25, 26, 27, 28, 29, 30, 31, 32, 33, 34, 35, 36, 37, 38, 39]) [(7, .t (num i))], Go.Ot.look (vJ (.r 4 1 0) (xZ 31 [.t (.sl (rA 2 cs i).boxes.length ((rA 2 cs i).boxes.flatMap mbT)), .t (lst txt (rA 2 cs i).log), .t (txt (rA 2 cs i).snap), .t (num (rA 2 cs i).shares), .t (lst num (rA 2 cs i).last)]) L)⟩) (fun i => i ≤ cs.length) (fun i => cs.length - i) (0) (wF ?_) ?_ ?_
  ·refine wQ [(.r 4 1 0, .r 4 1 0)] ?_ ?_ ?_ <;> simp [-List.map_set, -List.map_replicate, -List.reduceReplicate, -List.map_map, -List.map_drop, -List.map_take, mbT, qA, rA_0]
  ·(first | omega | simp)
  ·intro i hi
   refine vK ?_
   refine yD (yD (yA rfl ?_))
   iterate 4 refine yF ?_
   refine yE (yB (yC ?_))
   refine vL (fun hc1 => ?_) (fun hc1 => ?_)
   ·(try simp only [Bool.and_eq_true, Bool.or_eq_true, Bool.or_eq_false_iff, Bool.not_eq_true', Bool.not_eq_false', xH, xI, Bool.and_eq_false_imp, beq_iff_eq, beq_eq_false_iff_ne, ne_eq] at hc1)
    refine yK (yC (yD (yI (yA rfl ?_))))
    have hil : i < cs.length := by omega
    obtain ⟨ee, hee, he2⟩ : ∃ e : Nat, i % 2 = e ∧ e < 2 := ⟨_, rfl, by omega⟩
    have het : ((i : Nat) : Int).tmod 2 = (ee : Int) := by rw [Int.tmod_eq_emod_of_nonneg (by omega)]; omega
    have hem : ((i : Nat) : Int) % 2 = (ee : Int) := by omega
    obtain ⟨c, hc⟩ : ∃ c, cs.getD i default = c := ⟨_, rfl⟩
    have hcp := (lT hck hil).1
    rw [hc] at hcp
    have hc2 := nJ c
    iterate 2 refine yU ?_
    refine yU (hs := by (simp (disch := first | omega | (simp only [List.length_drop, List.length_take, List.length_map, List.length_append, List.length_cons, List.length_nil, List.length_replicate, List.length_set] <;> omega) | (simp only [push_cast] <;> omega) | fail) only [push_cast, reduceCtorEq, Nat.reduceAdd, Nat.reduceSub, Nat.reduceMul, Nat.reduceEqDiff, Nat.reduceLT, Nat.reduceLeDiff, Nat.reduceMod, Nat.reduceDiv, Int.reduceLE, Int.reduceLT, Int.reduceEq, Int.reduceToNat, Int.reduceAdd, Int.reduceSub, Int.reduceMul, Int.reduceNeg, het, hem] <;> rfl)) ?_
    iterate 4 refine yU ?_
    simp only [hc]
    refine yV [] false (yFd Γ c hcp) ?_
    refine yU ?_
    refine yV [] false (jD Γ ⟨4, (ee : Int), 0, rcF c⟩) ?_ (hv := by (simp (disch := first | omega | (simp only [List.length_drop, List.length_take, List.length_map, List.length_append, List.length_cons, List.length_nil, List.length_replicate, List.length_set] <;> omega) | fail) [-List.map_map, -List.map_drop, -List.map_take, VwL_cons, xO, xY, vV, xV, xW, xU, Vw_agg, xS, xX, xC, VwL_refl_map, yZ, xM, xN, wO, xL, yX, xF, yW, VwTs_app, List.take_of_length_le, srcL, notIn, ObsVw, SrcOk, pOk, Go.Ot.look, resP, resN, ev, evc, mkS, push_cast, List.take_of_length_le, qA] <;> (try omega)))
    refine yV [] true ((by have h := yCL Γ hE (k := 2) (by decide) hck hil (ee : Int) (by omega); rw [hc] at h; exact h)) ?_ (hv := by (simp (maxSteps := 2000000) (disch := first | omega | (simp only [List.length_drop, List.length_take, List.length_map, List.length_append, List.length_cons, List.length_nil, List.length_replicate, List.length_set] <;> omega) | fail) [-List.map_map, -List.map_drop, -List.map_take, VwL_cons, xO, xY, vV, xV, xW, xU, Vw_agg, xS, xX, xC, VwL_refl_map, yZ, xM, xN, wO, xL, yX, xF, yW, VwTs_app, List.take_of_length_le, srcL, notIn, ObsVw, SrcOk, pOk, Go.Ot.look, resP, resN, ev, evc, mkS, push_cast, List.take_of_length_le] <;> (try omega)))
    iterate 4 refine yU ?_
    refine yE (xP (by kernel_rfl) (yR (yC (yA rfl ?_))))
    iterate 3 refine yF ?_
    refine yE (yB ?_)
    refine xE (i + 1) (wF ?_) ?_ ?_
    ·refine wQ [(.r 4 1 0, .r 4 1 0)] ?_ ?_ ?_ <;> simp [-List.map_set, -List.map_replicate, -List.reduceReplicate, -List.map_map, -List.map_drop, -List.map_take, mbT, qA]
    ·(first | omega | (simp_all <;> omega))
    ·(first | omega | (simp only []; omega))
   ·(try simp only [Bool.and_eq_true, Bool.or_eq_true, Bool.or_eq_false_iff, Bool.not_eq_true', Bool.not_eq_false', xH, xI, Bool.and_eq_false_imp, beq_iff_eq, beq_eq_false_iff_ne, ne_eq] at hc1)
    refine xQ (yM (yN (yL (yC (yD (yA rfl ?_))))))
    have hil : i = cs.length := by omega
    subst hil
    have hf8 := fr.toNat_lt
    obtain ⟨kk, hkk, hk12⟩ : ∃ d : Nat, fr.toNat % 12 = d ∧ d < 12 := ⟨_, rfl, by omega⟩
    have hkt : (fr.toNat : Int).tmod 12 = (kk : Int) := by rw [Int.tmod_eq_emod_of_nonneg (by omega)]; omega
    have hkm : (fr.toNat : Int) % 12 = (kk : Int) := by omega
    obtain ⟨q, hq⟩ : ∃ q, lgQ (rA 2 cs cs.length) kk = q := ⟨_, rfl⟩
    have hql := yAr (rA 2 cs cs.length) kk
    rw [yC8, List.length_map, hq] at hql
    have hqg : ∀ j, j < q.length → q.getD j [] = rcF (cs.getD (kk + j) default) := fun j hj => by rw [← hq] at hj ⊢; exact yH9 hj
    have g := GP_gen (k := 3) (d := 0) (n := kk) (l := q) (by omega) (by omega) (by omega) (by omega) (fun s hs => by rw [← hq] at hs; have := yGZ s hs; omega)
    iterate 2 refine yF ?_
    refine yF (hs := by (simp (disch := first | omega | (simp only [List.length_drop, List.length_take, List.length_map, List.length_append, List.length_cons, List.length_nil, List.length_replicate, List.length_set] <;> omega) | (simp only [push_cast] <;> omega) | fail) only [push_cast, reduceCtorEq, Nat.reduceAdd, Nat.reduceSub, Nat.reduceMul, Nat.reduceEqDiff, Nat.reduceLT, Nat.reduceLeDiff, Nat.reduceMod, Nat.reduceDiv, Int.reduceLE, Int.reduceLT, Int.reduceEq, Int.reduceToNat, Int.reduceAdd, Int.reduceSub, Int.reduceMul, Int.reduceNeg, hkt, hkm] <;> rfl)) ?_
    refine yF ?_
    refine yE (yB (yC (yD (yA rfl ?_))))
    iterate 3 refine yU ?_
    refine yV [] false (jD Γ ⟨3, 1, (kk : Int), []⟩) ?_ (hv := by (simp (disch := first | omega | (simp only [List.length_drop, List.length_take, List.length_map, List.length_append, List.length_cons, List.length_nil, List.length_replicate, List.length_set] <;> omega) | fail) [-List.map_map, -List.map_drop, -List.map_take, VwL_cons, xO, xY, vV, xV, xW, xU, Vw_agg, xS, xX, xC, VwL_refl_map, yZ, xM, xN, wO, xL, yX, xF, yW, VwTs_app, List.take_of_length_le, srcL, notIn, ObsVw, SrcOk, pOk, Go.Ot.look, resP, resN, ev, evc, mkS, push_cast, List.take_of_length_le, qA] <;> (try omega)))
    refine yV [] true ((by have h := yE0 Γ hE (k := 2) (by decide) (cs := cs) (by omega) cs.length 1 (by decide) kk (by omega); rw [hq] at h; exact h)) ?_ (hv := by (simp (maxSteps := 2000000) (disch := first | omega | (simp only [List.length_drop, List.length_take, List.length_map, List.length_append, List.length_cons, List.length_nil, List.length_replicate, List.length_set] <;> omega) | fail) [-List.map_map, -List.map_drop, -List.map_take, VwL_cons, xO, xY, vV, xV, xW, xU, Vw_agg, xS, xX, xC, VwL_refl_map, yZ, xM, xN, wO, xL, yX, xF, yW, VwTs_app, List.take_of_length_le, srcL, notIn, ObsVw, SrcOk, pOk, Go.Ot.look, resP, resN, ev, evc, mkS, push_cast, List.take_of_length_le] <;> (try omega)))
    iterate 6 refine yU ?_
    refine yE (xP (by kernel_rfl) (yC (yD (yA rfl ?_))))
    refine yF ?_
    refine yS [] true ((by have h := fZ Γ (Rp.p ⟨3, 0, (kk : Int), q⟩) g.2; rw [g.1, fE] at h; exact h)) ?_
    iterate 2 refine yF ?_
    refine yE (yB (yC (yD (yD (yA rfl ?_)))))
    iterate 4 refine yF ?_
    iterate 5 refine yY ?_
    iterate 2 refine yF ?_
    iterate 11 refine yY ?_
    iterate 2 refine yF ?_
    iterate 2 refine yY ?_
    refine vA [] false (yBS Γ (rA 2 cs cs.length) (rA_s (by decide) (by omega))) ?_
    refine yY ?_
    refine yF ?_
    refine yE (yB (yC (yJ (yK (yC (yD (yD (yA rfl ?_))))))))
    refine yF ?_
    refine yE (yB (yC (yI ?_)))
    refine xJ (fun sl L (j : Nat) => ⟨setAll (setBad sl [0, 1, 4, 6, 7, 9, 10, 13, 14, 15, 16, 17, 18, 19, 20, 21, 22, 23, 24, 25, 26, 27, 28, 29, 30, 31, 32, 33, 34, 35, 36, 37, 38, 39, 40, 41, 42, 43, 44, 45, 46, 47, 48, 49, 50, 51, 52, 53, 54, 55, 56, 57, 58, 59, 60, 61, 62, 63, 64, 65, 66, 67, 68, 69, 70, 71, 72, 73, 74, 75, 76, 77, 78, 79, 80, 81, 82, 83, 84, 85, 86, 87, 88, 89, 90, 91, 92, 93, 94, 95, 96, 97, 98, 99, 100, 101, 102, 103]) [(12, .t (num j))], Go.Ot.look (L)⟩) (fun j => j ≤ q.length) (fun j => q.length - j) (0) (wF ?_) ?_ ?_
    ·refine wQ [(.r 4 1 0, .r 4 1 0), (.r 10 8 0, .r 10 8 0), (.r 11 2 0, .r 11 2 0)] ?_ ?_ ?_ <;> simp [-List.map_set, -List.map_replicate, -List.reduceReplicate, -List.map_map, -List.map_drop, -List.map_take, mbT, qA]
    ·(first | omega | simp)
    ·intro j hj
     refine vK ?_
     refine yD (yD (yA rfl ?_))
     iterate 6 refine yF ?_
     refine yE (yB (yC ?_))
     refine vL (fun hc3 => ?_) (fun hc3 => ?_)
     ·(try simp only [Bool.and_eq_true, Bool.or_eq_true, Bool.or_eq_false_iff, Bool.not_eq_true', Bool.not_eq_false', xH, xI, Bool.and_eq_false_imp, beq_iff_eq, beq_eq_false_iff_ne, ne_eq] at hc3)
      refine yK (yC (yD (yI (yD (yA rfl ?_)))))
      have hjq : j < q.length := by omega
      have hqj := hqg j hjq
      obtain ⟨x, hx⟩ : ∃ x, kk + j = x := ⟨_, rfl⟩
      have hxi : (kk : Int) + (j : Int) = (x : Int) := by omega
      have hxl : x < cs.length := by omega
      obtain ⟨c, hc⟩ : ∃ c, cs.getD x default = c := ⟨_, rfl⟩
      have hcp := (lT hck hxl).1
      rw [hx, hc] at hqj
      rw [hc] at hcp
      iterate 6 refine yU ?_
      simp only [hqj]
      iterate 3 refine yU ?_
      refine yU (hs := by (simp (disch := first | omega | (simp only [List.length_drop, List.length_take, List.length_map, List.length_append, List.length_cons, List.length_nil, List.length_replicate, List.length_set] <;> omega) | (simp only [push_cast] <;> omega) | fail) only [push_cast, reduceCtorEq, Nat.reduceAdd, Nat.reduceSub, Nat.reduceMul, Nat.reduceEqDiff, Nat.reduceLT, Nat.reduceLeDiff, Nat.reduceMod, Nat.reduceDiv, Int.reduceLE, Int.reduceLT, Int.reduceEq, Int.reduceToNat, Int.reduceAdd, Int.reduceSub, Int.reduceMul, Int.reduceNeg, hxi] <;> rfl)) ?_
      iterate 2 refine yU ?_
      simp only [hc]
      refine yV [] false (yFd Γ c hcp) ?_
      refine yU (hs := by (simp (disch := first | omega | (simp only [List.length_drop, List.length_take, List.length_map, List.length_append, List.length_cons, List.length_nil, List.length_replicate, List.length_set] <;> omega) | (simp only [push_cast] <;> omega) | fail) only [push_cast, reduceCtorEq, Nat.reduceAdd, Nat.reduceSub, Nat.reduceMul, Nat.reduceEqDiff, Nat.reduceLT, Nat.reduceLeDiff, Nat.reduceMod, Nat.reduceDiv, Int.reduceLE, Int.reduceLT, Int.reduceEq, Int.reduceToNat, Int.reduceAdd, Int.reduceSub, Int.reduceMul, Int.reduceNeg, bne_self_eq_false] <;> rfl)) ?_
      refine yE (xP (by kernel_rfl) (yC (yJ (yK (yR (yC (yA rfl ?_)))))))
      iterate 3 refine yF ?_
      refine yE (yB ?_)
      refine xE (j + 1) (wF ?_) ?_ ?_
      ·refine wQ [(.r 4 1 0, .r 4 1 0), (.r 10 8 0, .r 10 8 0), (.r 11 2 0, .r 11 2 0)] ?_ ?_ ?_ <;> simp [-List.map_set, -List.map_replicate, -List.reduceReplicate, -List.map_map, -List.map_drop, -List.map_take, mbT, qA]
      ·(first | omega | (simp_all <;> omega))
      ·(first | omega | (simp only []; omega))
     ·(try simp only [Bool.and_eq_true, Bool.or_eq_true, Bool.or_eq_false_iff, Bool.not_eq_true', Bool.not_eq_false', xH, xI, Bool.and_eq_false_imp, beq_iff_eq, beq_eq_false_iff_ne, ne_eq] at hc3)
      refine xQ (yM (yN (yL (yC (yD (yA rfl ?_))))))
      refine yS [] false (fW Γ hE) ?_
      refine yF ?_
      refine yE (yB (yC (yP ?_)))
      refine ⟨.inr rfl, yT [] (by rw [results7]) ?_ ?_ ?_⟩ <;> simp [-List.map_set, -List.map_replicate, -List.reduceReplicate, -List.map_map, -List.map_drop, -List.map_take, mbT, qA]
end Go.Proofs.Tryz
