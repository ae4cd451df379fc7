/- Contracts of this program's functions. -/
import Derived.Test.YtkbikblijipceaaGreatDoorSRC4
import Derived.Test.YtkbikblijipceaaGreatDoorOtE
import Derived.Test.YtkbikblijipceaaGreatDoorSQ1
import Derived.Test.YtkbikblijipceaaGreatDoorSVAs
set_option maxHeartbeats 4000000
set_option maxRecDepth 100000
set_option linter.unusedVariables false
set_option linter.unusedSimpArgs false
namespace Go.Proofs.Tryz
open Go Go.Ot
def lgQ (r : Rl) (n : Nat) : List (List UInt8) := (r.log.drop (min n r.log.length)).take 8
attribute [local simp] num bol txt w8 w16 w32 w64 lst cls xZ xR List.take_of_length_le
attribute [local irreducible] wpK wpS uE wH wV wN wZ xD Le lgQ
theorem yGi (Γ : Gl) (r : Rl) (hr : rlS r) (d : Int) (n : Nat) (hn2 : n ≤ 4503599627370496) (b : List UInt8)  : Go.Ot.Good Γ prog 94 [.ptr (.p 0) 0, .agg [.t (num 3), .t (num d), .t (num n), .t (txt b)], .ptr (.p 1) 0] [xR 31 [.msl (.p 2) 0 r.boxes.length 2, .msl (.p 3) 0 r.log.length 1, .t (txt r.snap), .t (num r.shares), .msl (.p 4) 0 r.last.length 1], xR 44 [.t (num 3), .t (num 0), .t (num 0), .t (.v (.slice none 0 0))], wE r.boxes, xZ 9 txt r.log, xZ 3 num r.last] (.t (.v .nilIface)) [some (xR 31 [.msl (.p 2) 0 r.boxes.length 2, .msl (.p 3) 0 r.log.length 1, .t (txt r.snap), .t (num r.shares), .msl (.p 4) 0 r.last.length 1]), some (xR 44 [.t (num 3), .t (num 0), .t (num n), .t (lst txt (lgQ r n))]), some (wE r.boxes), some (xZ 9 txt r.log), some (xZ 3 num r.last)] [] := by
 obtain ⟨hb, hm, hg, hn⟩ := hr
 obtain ⟨k, hk⟩ : ∃ k, min n r.log.length = k := ⟨_, rfl⟩
 have hkl : k ≤ r.log.length := by omega
 obtain ⟨q, hq⟩ : ∃ q : Nat, min (r.log.length - k) 8 = q := ⟨_, rfl⟩
 have hql : q ≤ r.log.length - k := by omega
 have hd : lgQ r n = (r.log.drop k).take q := by
  rw [← hq, lgQ, hk, Nat.min_comm, ← List.take_take]
  congr 1
  exact (List.take_of_length_le (by rw [List.length_drop]; exact Nat.le_refl _)).symm
 have hmd : ((r.log.drop k).take q).map txt = ((r.log.map txt).drop k).take q := by rw [List.map_take, List.map_drop]
 have hml : min q (r.log.length - k) = q := by omega
 have hme : ((r.log.map txt).drop k).take q = ((r.log.drop k).take q).map txt := hmd.symm
 refine yR F.mix func94 (by rfl) ntmps94 ?_
 refine yD (yA rfl ?_)
 iterate 2 refine yF ?_
 refine yE (yB (yC (yD (yA rfl ?_))))
 iterate 11 refine yY ?_
 refine yY (hs := by (simp (disch := first | omega | (simp only [zL] <;> omega) | (simp only [push_cast] <;> omega) | fail) only [push_cast, reduceCtorEq, Nat.reduceAdd, Nat.reduceSub, Nat.reduceMul, Nat.reduceEqDiff, Nat.reduceLT, Nat.reduceLeDiff, Nat.reduceMod, Nat.reduceDiv, Int.reduceLE, Int.reduceLT, Int.reduceEq, Int.reduceToNat, Int.reduceAdd, Int.reduceSub, Int.reduceMul, Int.reduceNeg, show min (n : Int) (r.log.length : Int) = (k : Int) from by omega] <;> rfl)) ?_
 iterate 2 refine yY ?_
 refine yE (xO (by kernel_rfl) (yC (yD (yA rfl ?_))))
 iterate 7 refine yY ?_
 refine yY (hs := by (simp (disch := first | omega | (simp only [zL] <;> omega) | (simp only [push_cast] <;> omega) | fail) only [push_cast, reduceCtorEq, Nat.reduceAdd, Nat.reduceSub, Nat.reduceMul, Nat.reduceEqDiff, Nat.reduceLT, Nat.reduceLeDiff, Nat.reduceMod, Nat.reduceDiv, Int.reduceLE, Int.reduceLT, Int.reduceEq, Int.reduceToNat, Int.reduceAdd, Int.reduceSub, Int.reduceMul, Int.reduceNeg, show min ((r.log.length : Int) - (k : Int)) 8 = (q : Int) from by omega, show min ((r.log.length - k : Nat) : Int) 8 = (q : Int) from by omega] <;> rfl)) ?_
 refine yY ?_
 refine yZ [.p 3] false (vT Γ ((r.log.drop k).take q) (by rw [List.length_take, List.length_drop]; omega)) ?_ (hv := by (simp (maxSteps := 2000000) (disch := first | omega | (simp only [zL] <;> omega) | fail) [-List.map_map, -List.map_drop, -List.map_take, VwL_cons, xM, xY, vN, xV, xW, xU, Vw_agg, xS, xX, xA, VwL_refl_map, yX, xK, xL, wK, xJ, yW, xC, yV, VwTs_app, List.take_of_length_le, srcL, notIn, ObsVw, SrcOk, pOk, Go.Ot.look, resP, resN, ev, evc, mkS, push_cast, List.take_of_length_le, hmd, hml] <;> (try omega)))
 iterate 6 refine yY ?_
 refine yE (xO (by kernel_rfl) (yC (yD (yA rfl ?_))))
 refine yF ?_
 refine yE (yB (yC (yO ?_)))
 refine ⟨.inr rfl, yP [(.p 0, .p 0), (.p 1, .p 1), (.p 2, .p 2), (.p 3, .p 3), (.p 4, .p 4)] (by rw [results94]) ?_ ?_ ?_⟩ <;> simp [-List.map_set, -List.map_replicate, -List.reduceReplicate, -List.map_map, -List.map_drop, -List.map_take, mbT, wE, hd, hmd, hml]
theorem yHx (Γ : Gl) (r r' : Rl) (d n n' : Int) (hd : 0 ≤ d ∧ d < r.boxes.length) (hn : 0 ≤ n ∧ n ≤ 4503599627370496) (b : List UInt8) (l' : List (List UInt8)) (hG : Go.Ot.Good Γ prog 92 [.ptr (.p 0) 0, .agg [.t (num 1), .t (num d), .t (num n), .t (txt b)], .ptr (.p 1) 0] [xR 31 [.msl (.p 2) 0 r.boxes.length 2, .msl (.p 3) 0 r.log.length 1, .t (txt r.snap), .t (num r.shares), .msl (.p 4) 0 r.last.length 1], xR 44 [.t (num 1), .t (num 0), .t (num 0), .t (.v (.slice none 0 0))], wE r.boxes, xZ 9 txt r.log, xZ 3 num r.last] (.t (.v .nilIface)) [some (xR 31 [.msl (.p 2) 0 r'.boxes.length 2, .msl (.p 3) 0 r'.log.length 1, .t (txt r'.snap), .t (num r'.shares), .msl (.p 4) 0 r'.last.length 1]), some (xR 44 [.t (num 1), .t (num 0), .t (num n'), .t (lst txt l')]), some (wE r'.boxes), some (xZ 9 txt r'.log), some (xZ 3 num r'.last)] []) : Go.Ot.Good Γ prog 38 [.ptr (.p 0) 0, .agg [.t (num 1), .t (num d), .t (num n), .t (txt b)], .ptr (.p 1) 0] [xR 31 [.msl (.p 2) 0 r.boxes.length 2, .msl (.p 3) 0 r.log.length 1, .t (txt r.snap), .t (num r.shares), .msl (.p 4) 0 r.last.length 1], xR 44 [.t (num 1), .t (num 0), .t (num 0), .t (.v (.slice none 0 0))], wE r.boxes, xZ 9 txt r.log, xZ 3 num r.last] (.t (.v .nilIface)) [some (xR 31 [.msl (.p 2) 0 r'.boxes.length 2, .msl (.p 3) 0 r'.log.length 1, .t (txt r'.snap), .t (num r'.shares), .msl (.p 4) 0 r'.last.length 1]), some (xR 44 [.t (num 1), .t (num 0), .t (num n'), .t (lst txt l')]), some (wE r'.boxes), some (xZ 9 txt r'.log), some (xZ 3 num r'.last)] [] := by
 refine yR F.mix func38 (by rfl) ntmps38 ?_
 refine yD (yA rfl ?_)
 iterate 2 refine yF ?_
 refine yE (yB (yC (yD (yD (yA rfl ?_)))))
 iterate 4 refine yY ?_
 iterate 8 refine vR ?_
 iterate 2 refine yY ?_
 iterate 2 refine vR ?_
 refine sW [] false (uK Γ n hn.1 hn.2) ?_
 refine vR ?_
 refine yY ?_
 refine yE (xO (by kernel_rfl) (yC (yJ (yL (yC (yD (yD (yA rfl ?_))))))))
 iterate 2 refine yF ?_
 refine yE (yB (yC (yH (yD (yH (yD (yH (yD (yH (yD (yH (yD (yH (yD (yH (yD (yD (yD (yA rfl ?_)))))))))))))))))))
 iterate 2 refine yF ?_
 refine yE (yB (yC (xF (xQ (yM (yM (yK (yC (yD (yD (yA rfl ?_)))))))))))
 iterate 3 refine yF ?_
 refine wG [.p 0, .p 1, .p 2, .p 3, .p 4] [] [.p 2, .p 3, .p 4] true hG ?_
 refine yF ?_
 refine yE (yB (yC (yO (yG (yI (yG (yI (yG (yI (yG (yI (yG (yI (yG (yI (yG ?_))))))))))))))))
 refine ⟨.inr rfl, yP [(.p 0, .p 0), (.p 1, .p 1), (.p 2, .p 2), (.p 3, .p 3), (.p 4, .p 4)] (by rw [results38]) ?_ ?_ ?_⟩ <;> simp [-List.map_set, -List.map_replicate, -List.reduceReplicate, -List.map_map, -List.map_drop, -List.map_take, mbT, wE]
theorem yJb (Γ : Gl) (r r' : Rl) (d n n' : Int) (hd : 0 ≤ d ∧ d < r.boxes.length) (hn : 0 ≤ n ∧ n ≤ 4503599627370496) (b : List UInt8) (l' : List (List UInt8)) (hG : Go.Ot.Good Γ prog 92 [.ptr (.p 0) 0, .agg [.t (num 1), .t (num d), .t (num n), .t (txt b)], .ptr (.p 1) 0] [xR 31 [.msl (.p 2) 0 r.boxes.length 2, .msl (.p 3) 0 r.log.length 1, .t (txt r.snap), .t (num r.shares), .msl (.p 4) 0 r.last.length 1], xR 44 [.t (num 1), .t (num 0), .t (num 0), .t (.v (.slice none 0 0))], wE r.boxes, xZ 9 txt r.log, xZ 3 num r.last] (.t (.ifc 88 (.agg [num 12]))) [some (xR 31 [.msl (.p 2) 0 r'.boxes.length 2, .msl (.p 3) 0 r'.log.length 1, .t (txt r'.snap), .t (num r'.shares), .msl (.p 4) 0 r'.last.length 1]), some (xR 44 [.t (num 1), .t (num 0), .t (num n'), .t (lst txt l')]), some (wE r'.boxes), some (xZ 9 txt r'.log), some (xZ 3 num r'.last)] []) : Go.Ot.Good Γ prog 38 [.ptr (.p 0) 0, .agg [.t (num 1), .t (num d), .t (num n), .t (txt b)], .ptr (.p 1) 0] [xR 31 [.msl (.p 2) 0 r.boxes.length 2, .msl (.p 3) 0 r.log.length 1, .t (txt r.snap), .t (num r.shares), .msl (.p 4) 0 r.last.length 1], xR 44 [.t (num 1), .t (num 0), .t (num 0), .t (.v (.slice none 0 0))], wE r.boxes, xZ 9 txt r.log, xZ 3 num r.last] (.t (.ifc 88 (.agg [num 12]))) [some (xR 31 [.msl (.p 2) 0 r'.boxes.length 2, .msl (.p 3) 0 r'.log.length 1, .t (txt r'.snap), .t (num r'.shares), .msl (.p 4) 0 r'.last.length 1]), some (xR 44 [.t (num 1), .t (num 0), .t (num n'), .t (lst txt l')]), some (wE r'.boxes), some (xZ 9 txt r'.log), some (xZ 3 num r'.last)] [] := by
 refine yR F.mix func38 (by rfl) ntmps38 ?_
 refine yD (yA rfl ?_)
 iterate 2 refine yF ?_
 refine yE (yB (yC (yD (yD (yA rfl ?_)))))
 iterate 4 refine yY ?_
 iterate 8 refine vR ?_
 iterate 2 refine yY ?_
 iterate 2 refine vR ?_
 refine sW [] false (uK Γ n hn.1 hn.2) ?_
 refine vR ?_
 refine yY ?_
 refine yE (xO (by kernel_rfl) (yC (yJ (yL (yC (yD (yD (yA rfl ?_))))))))
 iterate 2 refine yF ?_
 refine yE (yB (yC (yH (yD (yH (yD (yH (yD (yH (yD (yH (yD (yH (yD (yH (yD (yD (yD (yA rfl ?_)))))))))))))))))))
 iterate 2 refine yF ?_
 refine yE (yB (yC (xF (xQ (yM (yM (yK (yC (yD (yD (yA rfl ?_)))))))))))
 iterate 3 refine yF ?_
 refine wG [.p 0, .p 1, .p 2, .p 3, .p 4] [] [.p 2, .p 3, .p 4] true hG ?_
 refine yF ?_
 refine yE (yB (yC (yO (yG (yI (yG (yI (yG (yI (yG (yI (yG (yI (yG (yI (yG ?_))))))))))))))))
 refine ⟨.inr rfl, yP [(.p 0, .p 0), (.p 1, .p 1), (.p 2, .p 2), (.p 3, .p 3), (.p 4, .p 4)] (by rw [results38]) ?_ ?_ ?_⟩ <;> simp [-List.map_set, -List.map_replicate, -List.reduceReplicate, -List.map_map, -List.map_drop, -List.map_take, mbT, wE]
theorem done_2 (Γ : Gl) (r r' : Rl) (d n n' : Int) (hd : 0 ≤ d ∧ d < r.boxes.length) (hn : 0 ≤ n ∧ n ≤ 4503599627370496) (b : List UInt8) (l' : List (List UInt8)) (hG : Go.Ot.Good Γ prog 93 [.ptr (.p 0) 0, .agg [.t (num 2), .t (num d), .t (num n), .t (txt b)], .ptr (.p 1) 0] [xR 31 [.msl (.p 2) 0 r.boxes.length 2, .msl (.p 3) 0 r.log.length 1, .t (txt r.snap), .t (num r.shares), .msl (.p 4) 0 r.last.length 1], xR 44 [.t (num 2), .t (num 0), .t (num 0), .t (.v (.slice none 0 0))], wE r.boxes, xZ 9 txt r.log, xZ 3 num r.last] (.t (.v .nilIface)) [some (xR 31 [.msl (.p 2) 0 r'.boxes.length 2, .msl (.p 3) 0 r'.log.length 1, .t (txt r'.snap), .t (num r'.shares), .msl (.p 4) 0 r'.last.length 1]), some (xR 44 [.t (num 2), .t (num 0), .t (num n'), .t (lst txt l')]), some (wE r'.boxes), some (xZ 9 txt r'.log), some (xZ 3 num r'.last)] []) : Go.Ot.Good Γ prog 38 [.ptr (.p 0) 0, .agg [.t (num 2), .t (num d), .t (num n), .t (txt b)], .ptr (.p 1) 0] [xR 31 [.msl (.p 2) 0 r.boxes.length 2, .msl (.p 3) 0 r.log.length 1, .t (txt r.snap), .t (num r.shares), .msl (.p 4) 0 r.last.length 1], xR 44 [.t (num 2), .t (num 0), .t (num 0), .t (.v (.slice none 0 0))], wE r.boxes, xZ 9 txt r.log, xZ 3 num r.last] (.t (.v .nilIface)) [some (xR 31 [.msl (.p 2) 0 r'.boxes.length 2, .msl (.p 3) 0 r'.log.length 1, .t (txt r'.snap), .t (num r'.shares), .msl (.p 4) 0 r'.last.length 1]), some (xR 44 [.t (num 2), .t (num 0), .t (num n'), .t (lst txt l')]), some (wE r'.boxes), some (xZ 9 txt r'.log), some (xZ 3 num r'.last)] [] := by
 refine yR F.mix func38 (by rfl) ntmps38 ?_
 refine yD (yA rfl ?_)
 iterate 2 refine yF ?_
 refine yE (yB (yC (yD (yD (yA rfl ?_)))))
 iterate 4 refine yY ?_
 iterate 8 refine vR ?_
 iterate 2 refine yY ?_
 iterate 2 refine vR ?_
 refine sW [] false (uK Γ n hn.1 hn.2) ?_
 refine vR ?_
 refine yY ?_
 refine yE (xO (by kernel_rfl) (yC (yJ (yL (yC (yD (yD (yA rfl ?_))))))))
 iterate 2 refine yF ?_
 refine yE (yB (yC (yH (yD (yH (yD (yH (yD (yH (yD (yH (yD (yH (yD (yH (yD (yD (yD (yA rfl ?_)))))))))))))))))))
 iterate 2 refine yF ?_
 refine yE (yB (yC (yJ (yL (yC (yD (yD (yA rfl ?_))))))))
 iterate 2 refine yF ?_
 refine yE (yB (yC (xF (xQ (yM (yM (wU (by decide) (yM (yK (yC (yD (yD (yA rfl ?_)))))))))))))
 iterate 3 refine yF ?_
 refine wG [.p 0, .p 1, .p 2, .p 3, .p 4] [] [.p 2, .p 3, .p 4] true hG ?_
 refine yF ?_
 refine yE (yB (yC (yO (yG (yI (yG (yI (yG (yI (yG (yI (yG (yI (yG ?_))))))))))))))
 refine ⟨.inr rfl, yP [(.p 0, .p 0), (.p 1, .p 1), (.p 2, .p 2), (.p 3, .p 3), (.p 4, .p 4)] (by rw [results38]) ?_ ?_ ?_⟩ <;> simp [-List.map_set, -List.map_replicate, -List.reduceReplicate, -List.map_map, -List.map_drop, -List.map_take, mbT, wE]
theorem done_3 (Γ : Gl) (r r' : Rl) (d n n' : Int) (hd : 0 ≤ d ∧ d < r.boxes.length) (hn : 0 ≤ n ∧ n ≤ 4503599627370496) (b : List UInt8) (l' : List (List UInt8)) (hG : Go.Ot.Good Γ prog 94 [.ptr (.p 0) 0, .agg [.t (num 3), .t (num d), .t (num n), .t (txt b)], .ptr (.p 1) 0] [xR 31 [.msl (.p 2) 0 r.boxes.length 2, .msl (.p 3) 0 r.log.length 1, .t (txt r.snap), .t (num r.shares), .msl (.p 4) 0 r.last.length 1], xR 44 [.t (num 3), .t (num 0), .t (num 0), .t (.v (.slice none 0 0))], wE r.boxes, xZ 9 txt r.log, xZ 3 num r.last] (.t (.v .nilIface)) [some (xR 31 [.msl (.p 2) 0 r'.boxes.length 2, .msl (.p 3) 0 r'.log.length 1, .t (txt r'.snap), .t (num r'.shares), .msl (.p 4) 0 r'.last.length 1]), some (xR 44 [.t (num 3), .t (num 0), .t (num n'), .t (lst txt l')]), some (wE r'.boxes), some (xZ 9 txt r'.log), some (xZ 3 num r'.last)] []) : Go.Ot.Good Γ prog 38 [.ptr (.p 0) 0, .agg [.t (num 3), .t (num d), .t (num n), .t (txt b)], .ptr (.p 1) 0] [xR 31 [.msl (.p 2) 0 r.boxes.length 2, .msl (.p 3) 0 r.log.length 1, .t (txt r.snap), .t (num r.shares), .msl (.p 4) 0 r.last.length 1], xR 44 [.t (num 3), .t (num 0), .t (num 0), .t (.v (.slice none 0 0))], wE r.boxes, xZ 9 txt r.log, xZ 3 num r.last] (.t (.v .nilIface)) [some (xR 31 [.msl (.p 2) 0 r'.boxes.length 2, .msl (.p 3) 0 r'.log.length 1, .t (txt r'.snap), .t (num r'.shares), .msl (.p 4) 0 r'.last.length 1]), some (xR 44 [.t (num 3), .t (num 0), .t (num n'), .t (lst txt l')]), some (wE r'.boxes), some (xZ 9 txt r'.log), some (xZ 3 num r'.last)] [] := by
 refine yR F.mix func38 (by rfl) ntmps38 ?_
 refine yD (yA rfl ?_)
 iterate 2 refine yF ?_
 refine yE (yB (yC (yD (yD (yA rfl ?_)))))
 iterate 4 refine yY ?_
 iterate 8 refine vR ?_
 iterate 2 refine yY ?_
 iterate 2 refine vR ?_
 refine sW [] false (uK Γ n hn.1 hn.2) ?_
 refine vR ?_
 refine yY ?_
 refine yE (xO (by kernel_rfl) (yC (yJ (yL (yC (yD (yD (yA rfl ?_))))))))
 iterate 2 refine yF ?_
 refine yE (yB (yC (yH (yD (yH (yD (yH (yD (yH (yD (yH (yD (yH (yD (yH (yD (yD (yD (yA rfl ?_)))))))))))))))))))
 iterate 2 refine yF ?_
 refine yE (yB (yC (yJ (yL (yC (yD (yD (yA rfl ?_))))))))
 iterate 2 refine yF ?_
 refine yE (yB (yC (yJ (yL (yC (yD (yD (yA rfl ?_))))))))
 iterate 2 refine yF ?_
 refine yE (yB (yC (xF (xQ (yM (yM (wU (by decide) (yM (wU (by decide) (yM (yK (yC (yD (yD (yA rfl ?_)))))))))))))))
 iterate 3 refine yF ?_
 refine wG [.p 0, .p 1, .p 2, .p 3, .p 4] [] [.p 2, .p 3, .p 4] true hG ?_
 refine yF ?_
 refine yE (yB (yC (yO (yG (yI (yG (yI (yG (yI (yG (yI (yG ?_))))))))))))
 refine ⟨.inr rfl, yP [(.p 0, .p 0), (.p 1, .p 1), (.p 2, .p 2), (.p 3, .p 3), (.p 4, .p 4)] (by rw [results38]) ?_ ?_ ?_⟩ <;> simp [-List.map_set, -List.map_replicate, -List.reduceReplicate, -List.map_map, -List.map_drop, -List.map_take, mbT, wE]
theorem done_4 (Γ : Gl) (r r' : Rl) (d n n' : Int) (hd : 0 ≤ d ∧ d < r.boxes.length) (hn : 0 ≤ n ∧ n ≤ 4503599627370496) (b : List UInt8) (l' : List (List UInt8)) (hG : Go.Ot.Good Γ prog 95 [.ptr (.p 0) 0, .agg [.t (num 4), .t (num d), .t (num n), .t (txt b)], .ptr (.p 1) 0] [xR 31 [.msl (.p 2) 0 r.boxes.length 2, .msl (.p 3) 0 r.log.length 1, .t (txt r.snap), .t (num r.shares), .msl (.p 4) 0 r.last.length 1], xR 44 [.t (num 4), .t (num 0), .t (num 0), .t (.v (.slice none 0 0))], wE r.boxes, xZ 9 txt r.log, xZ 3 num r.last] (.t (.v .nilIface)) [some (xR 31 [.msl (.p 2) 0 r'.boxes.length 2, .msl (.p 3) 0 r'.log.length 1, .t (txt r'.snap), .t (num r'.shares), .msl (.p 4) 0 r'.last.length 1]), some (xR 44 [.t (num 4), .t (num 0), .t (num n'), .t (lst txt l')]), some (wE r'.boxes), some (xZ 9 txt r'.log), some (xZ 3 num r'.last)] []) : Go.Ot.Good Γ prog 38 [.ptr (.p 0) 0, .agg [.t (num 4), .t (num d), .t (num n), .t (txt b)], .ptr (.p 1) 0] [xR 31 [.msl (.p 2) 0 r.boxes.length 2, .msl (.p 3) 0 r.log.length 1, .t (txt r.snap), .t (num r.shares), .msl (.p 4) 0 r.last.length 1], xR 44 [.t (num 4), .t (num 0), .t (num 0), .t (.v (.slice none 0 0))], wE r.boxes, xZ 9 txt r.log, xZ 3 num r.last] (.t (.v .nilIface)) [some (xR 31 [.msl (.p 2) 0 r'.boxes.length 2, .msl (.p 3) 0 r'.log.length 1, .t (txt r'.snap), .t (num r'.shares), .msl (.p 4) 0 r'.last.length 1]), some (xR 44 [.t (num 4), .t (num 0), .t (num n'), .t (lst txt l')]), some (wE r'.boxes), some (xZ 9 txt r'.log), some (xZ 3 num r'.last)] [] := by
 refine yR F.mix func38 (by rfl) ntmps38 ?_
 refine yD (yA rfl ?_)
 iterate 2 refine yF ?_
 refine yE (yB (yC (yD (yD (yA rfl ?_)))))
 iterate 4 refine yY ?_
 iterate 8 refine vR ?_
 iterate 2 refine yY ?_
 iterate 2 refine vR ?_
 refine sW [] false (uK Γ n hn.1 hn.2) ?_
 refine vR ?_
 refine yY ?_
 refine yE (xO (by kernel_rfl) (yC (yJ (yL (yC (yD (yD (yA rfl ?_))))))))
 iterate 2 refine yF ?_
 refine yE (yB (yC (yH (yD (yH (yD (yH (yD (yH (yD (yH (yD (yH (yD (yH (yD (yD (yD (yA rfl ?_)))))))))))))))))))
 iterate 2 refine yF ?_
 refine yE (yB (yC (yJ (yL (yC (yD (yD (yA rfl ?_))))))))
 iterate 2 refine yF ?_
 refine yE (yB (yC (yJ (yL (yC (yD (yD (yA rfl ?_))))))))
 iterate 2 refine yF ?_
 refine yE (yB (yC (yJ (yL (yC (yD (yD (yA rfl ?_))))))))
 iterate 2 refine yF ?_
 refine yE (yB (yC (xF (xQ (yM (yM (wU (by decide) (yM (wU (by decide) (yM (wU (by decide) (yM (yK (yC (yD (yD (yA rfl ?_)))))))))))))))))
 iterate 3 refine yF ?_
 refine wG [.p 0, .p 1, .p 2, .p 3, .p 4] [] [.p 2, .p 3, .p 4] true hG ?_
 refine yF ?_
 refine yE (yB (yC (yO (yG (yI (yG (yI (yG (yI (yG ?_))))))))))
 refine ⟨.inr rfl, yP [(.p 0, .p 0), (.p 1, .p 1), (.p 2, .p 2), (.p 3, .p 3), (.p 4, .p 4)] (by rw [results38]) ?_ ?_ ?_⟩ <;> simp [-List.map_set, -List.map_replicate, -List.reduceReplicate, -List.map_map, -List.map_drop, -List.map_take, mbT, wE]
theorem done_4e (Γ : Gl) (r r' : Rl) (d n n' : Int) (hd : 0 ≤ d ∧ d < r.boxes.length) (hn : 0 ≤ n ∧ n ≤ 4503599627370496) (b : List UInt8) (l' : List (List UInt8)) (hG : Go.Ot.Good Γ prog 95 [.ptr (.p 0) 0, .agg [.t (num 4), .t (num d), .t (num n), .t (txt b)], .ptr (.p 1) 0] [xR 31 [.msl (.p 2) 0 r.boxes.length 2, .msl (.p 3) 0 r.log.length 1, .t (txt r.snap), .t (num r.shares), .msl (.p 4) 0 r.last.length 1], xR 44 [.t (num 4), .t (num 0), .t (num 0), .t (.v (.slice none 0 0))], wE r.boxes, xZ 9 txt r.log, xZ 3 num r.last] (.t (.ifc 88 (.agg [num 11]))) [some (xR 31 [.msl (.p 2) 0 r'.boxes.length 2, .msl (.p 3) 0 r'.log.length 1, .t (txt r'.snap), .t (num r'.shares), .msl (.p 4) 0 r'.last.length 1]), some (xR 44 [.t (num 4), .t (num 0), .t (num n'), .t (lst txt l')]), some (wE r'.boxes), some (xZ 9 txt r'.log), some (xZ 3 num r'.last)] []) : Go.Ot.Good Γ prog 38 [.ptr (.p 0) 0, .agg [.t (num 4), .t (num d), .t (num n), .t (txt b)], .ptr (.p 1) 0] [xR 31 [.msl (.p 2) 0 r.boxes.length 2, .msl (.p 3) 0 r.log.length 1, .t (txt r.snap), .t (num r.shares), .msl (.p 4) 0 r.last.length 1], xR 44 [.t (num 4), .t (num 0), .t (num 0), .t (.v (.slice none 0 0))], wE r.boxes, xZ 9 txt r.log, xZ 3 num r.last] (.t (.ifc 88 (.agg [num 11]))) [some (xR 31 [.msl (.p 2) 0 r'.boxes.length 2, .msl (.p 3) 0 r'.log.length 1, .t (txt r'.snap), .t (num r'.shares), .msl (.p 4) 0 r'.last.length 1]), some (xR 44 [.t (num 4), .t (num 0), .t (num n'), .t (lst txt l')]), some (wE r'.boxes), some (xZ 9 txt r'.log), some (xZ 3 num r'.last)] [] := by
 refine yR F.mix func38 (by rfl) ntmps38 ?_
 refine yD (yA rfl ?_)
 iterate 2 refine yF ?_
 refine yE (yB (yC (yD (yD (yA rfl ?_)))))
 iterate 4 refine yY ?_
 iterate 8 refine vR ?_
 iterate 2 refine yY ?_
 iterate 2 refine vR ?_
 refine sW [] false (uK Γ n hn.1 hn.2) ?_
 refine vR ?_
 refine yY ?_
 refine yE (xO (by kernel_rfl) (yC (yJ (yL (yC (yD (yD (yA rfl ?_))))))))
 iterate 2 refine yF ?_
 refine yE (yB (yC (yH (yD (yH (yD (yH (yD (yH (yD (yH (yD (yH (yD (yH (yD (yD (yD (yA rfl ?_)))))))))))))))))))
 iterate 2 refine yF ?_
 refine yE (yB (yC (yJ (yL (yC (yD (yD (yA rfl ?_))))))))
 iterate 2 refine yF ?_
 refine yE (yB (yC (yJ (yL (yC (yD (yD (yA rfl ?_))))))))
 iterate 2 refine yF ?_
 refine yE (yB (yC (yJ (yL (yC (yD (yD (yA rfl ?_))))))))
 iterate 2 refine yF ?_
 refine yE (yB (yC (xF (xQ (yM (yM (wU (by decide) (yM (wU (by decide) (yM (wU (by decide) (yM (yK (yC (yD (yD (yA rfl ?_)))))))))))))))))
 iterate 3 refine yF ?_
 refine wG [.p 0, .p 1, .p 2, .p 3, .p 4] [] [.p 2, .p 3, .p 4] true hG ?_
 refine yF ?_
 refine yE (yB (yC (yO (yG (yI (yG (yI (yG (yI (yG ?_))))))))))
 refine ⟨.inr rfl, yP [(.p 0, .p 0), (.p 1, .p 1), (.p 2, .p 2), (.p 3, .p 3), (.p 4, .p 4)] (by rw [results38]) ?_ ?_ ?_⟩ <;> simp [-List.map_set, -List.map_replicate, -List.reduceReplicate, -List.map_map, -List.map_drop, -List.map_take, mbT, wE]
end Go.Proofs.Tryz

namespace Go.Proofs.Tryz
open Go Go.Ot
def erS (n k : Int) : T := .ifc 86 (.agg [num k, .ifc 88 (.agg [num n])])
@[push_cast] theorem erS_eq (n k : Int) : erS n k = .ifc 86 (.agg [num k, .ifc 88 (.agg [num n])]) := rfl
theorem yEF (n k : Int) : (erS n k).plain = some (Rs.wv (.agg #[.int .i64 n]) [k]) := by simp [erS, T.plain, T.plains, num, Rs.wv, Rs.wvT, Rs.wvV]
attribute [local simp] num bol txt w8 w16 w32 w64 lst cls xZ xR List.take_of_length_le
attribute [local irreducible] wpK wpS uE wH wV wN wZ xD Le rdS lpW rdW got tB mayW uW putW nb u64 qB GQ GP tsz wTs Rq.p Rp.p
theorem step_ok (Γ : Gl) (hE : EG Γ) (r r' : Rl) (hr : rlS r) (k d n n' : Int) (hk : 0 ≤ k ∧ k ≤ 1000) (hd : -1000 ≤ d ∧ d ≤ 1000) (hn : -9223372036854775808 ≤ n ∧ n ≤ 9223372036854775807) (b : List UInt8) (hb : b.length ≤ 900000) (l' : List (List UInt8)) (htz : tsz l' ≤ 9000000) (hll : l'.length ≤ 900000) (hG : Go.Ot.Good Γ prog 38 [.ptr (.p 0) 0, .agg [.t (num k), .t (num d), .t (num n), .t (txt b)], .ptr (.p 1) 0] [xR 31 [.msl (.p 2) 0 r.boxes.length 2, .msl (.p 3) 0 r.log.length 1, .t (txt r.snap), .t (num r.shares), .msl (.p 4) 0 r.last.length 1], xR 44 [.t (num k), .t (num 0), .t (num 0), .t (.v (.slice none 0 0))], wE r.boxes, xZ 9 txt r.log, xZ 3 num r.last] (.t (.v .nilIface)) [some (xR 31 [.msl (.p 2) 0 r'.boxes.length 2, .msl (.p 3) 0 r'.log.length 1, .t (txt r'.snap), .t (num r'.shares), .msl (.p 4) 0 r'.last.length 1]), some (xR 44 [.t (num k), .t (num 0), .t (num n'), .t (lst txt l')]), some (wE r'.boxes), some (xZ 9 txt r'.log), some (xZ 3 num r'.last)] []) : Go.Ot.Good Γ prog 14 [.agg [.t (.sl r.boxes.length (r.boxes.flatMap mbT)), .t (lst txt r.log), .t (txt r.snap), .t (num r.shares), .t (lst num r.last)], .t (txt (Rq.p ⟨k, d, n, b⟩))] [] (.tup [.agg [.t (.sl r'.boxes.length (r'.boxes.flatMap mbT)), .t (lst txt r'.log), .t (txt r'.snap), .t (num r'.shares), .t (lst num r'.last)], .t (txt (Rp.p ⟨k, 0, n', l'⟩))]) [] [] := by
 have hqm : mayW 6 (Rq.w ⟨k, d, n, b⟩) = true := by rw [Rq.w, yAv]; exact decide_eq_true (by show b.length ≤ _; omega)
 have hqo : Rq.ok ⟨k, d, n, b⟩ := ⟨⟨by show (-9223372036854775808 : Int) ≤ k; omega, by show k ≤ _; omega⟩, ⟨by show (-9223372036854775808 : Int) ≤ d; omega, by show d ≤ _; omega⟩, ⟨by show (-9223372036854775808 : Int) ≤ n; omega, by show n ≤ _; omega⟩⟩
 have hal := lY (l := r'.boxes) rfl
 refine yR F.mix func14 (by rfl) ntmps14 ?_
 refine yD (yA rfl ?_)
 iterate 3 refine yF ?_
 refine yE (yB (yC (yD (yA rfl ?_))))
 refine yF ?_
 refine yU [] true (cC Γ r hr) ?_
 iterate 2 refine yF ?_
 refine yE (yB (yC (yD (yA rfl ?_))))
 refine yF ?_
 refine yU [] true (by have h := gP Γ hE (Rq.p ⟨k, d, n, b⟩) (by rw [Rq.p, pS hqm]; have := yAw k d n b; show (putW 6 (rqW k d n b)).length ≤ _; omega); rw [GQ_p hqm hqo, gL] at h; exact h) ?_
 iterate 6 refine yF ?_
 refine yE (yB (yC (yD (yD (yA rfl ?_)))))
 iterate 2 refine yF ?_
 refine yE (yB (yC (yJ (yL (yC (yD (yA rfl ?_)))))))
 refine yF ?_
 refine yU [] true (yBW Γ r hr) ?_
 iterate 2 refine yF ?_
 refine yE (yB (yC (yD (yA rfl ?_))))
 iterate 5 refine yF ?_
 refine yE (yB (yC (yD (yA rfl ?_))))
 refine yF ?_
 refine wG [.r 5 2 0, .r 6 3 0, .r 5 1 0, .r 5 1 1, .r 5 1 2] [] [.r 5 1 0, .r 5 1 1, .r 5 1 2] true hG ?_
 refine yF ?_
 refine yE (yB (yC (yD (yD (yA rfl ?_)))))
 refine yF ?_
 refine vP true ?_
 refine yE (yB (yC (yJ (yL (yC (yD (yA rfl ?_)))))))
 refine yF ?_
 refine yE (yB (yC (yD (yD (yA rfl ?_)))))
 iterate 2 refine yF ?_
 refine wG [.r 10 0 0] [] [] false (Rs.Asnil_good Γ (num 0)) ?_
 refine yE (yB (yC (yJ (yL (yC (yD (yA rfl ?_)))))))
 iterate 2 refine yY ?_
 refine yZ [] false (lG Γ ⟨k, 0, n', l'⟩ (by show tsz l' ≤ _; omega) (by show l'.length ≤ _; omega)) ?_
 iterate 2 refine yY ?_
 refine yE (xO (by kernel_rfl) (yC (yO ?_)))
 refine ⟨.inr rfl, yP [] (by rw [results14]) ?_ ?_ ?_⟩ <;> simp [-List.map_set, -List.map_replicate, -List.reduceReplicate, -List.map_map, -List.map_drop, -List.map_take, mbT, qA, pA, wE, hal, qP, -List.length_flatMap]
theorem yFA (Γ : Gl) (e : Int) (hE : EG Γ) (r r' : Rl) (hr : rlS r) (k d n n' : Int) (hk : 0 ≤ k ∧ k ≤ 1000) (hd : -1000 ≤ d ∧ d ≤ 1000) (hn : -9223372036854775808 ≤ n ∧ n ≤ 9223372036854775807) (b : List UInt8) (hb : b.length ≤ 900000) (l' : List (List UInt8)) (htz : tsz l' ≤ 9000000) (hll : l'.length ≤ 900000) (hG : Go.Ot.Good Γ prog 38 [.ptr (.p 0) 0, .agg [.t (num k), .t (num d), .t (num n), .t (txt b)], .ptr (.p 1) 0] [xR 31 [.msl (.p 2) 0 r.boxes.length 2, .msl (.p 3) 0 r.log.length 1, .t (txt r.snap), .t (num r.shares), .msl (.p 4) 0 r.last.length 1], xR 44 [.t (num k), .t (num 0), .t (num 0), .t (.v (.slice none 0 0))], wE r.boxes, xZ 9 txt r.log, xZ 3 num r.last] (.t (.ifc 88 (.agg [num e]))) [some (xR 31 [.msl (.p 2) 0 r'.boxes.length 2, .msl (.p 3) 0 r'.log.length 1, .t (txt r'.snap), .t (num r'.shares), .msl (.p 4) 0 r'.last.length 1]), some (xR 44 [.t (num k), .t (num 0), .t (num n'), .t (lst txt l')]), some (wE r'.boxes), some (xZ 9 txt r'.log), some (xZ 3 num r'.last)] []) : Go.Ot.Good Γ prog 14 [.agg [.t (.sl r.boxes.length (r.boxes.flatMap mbT)), .t (lst txt r.log), .t (txt r.snap), .t (num r.shares), .t (lst num r.last)], .t (txt (Rq.p ⟨k, d, n, b⟩))] [] (.tup [.agg [.t (.sl r.boxes.length (r.boxes.flatMap mbT)), .t (lst txt r.log), .t (txt r.snap), .t (num r.shares), .t (lst num r.last)], .t (txt (Rp.p ⟨k, e, 0, []⟩))]) [] [] := by
 have hqm : mayW 6 (Rq.w ⟨k, d, n, b⟩) = true := by rw [Rq.w, yAv]; exact decide_eq_true (by show b.length ≤ _; omega)
 have hqo : Rq.ok ⟨k, d, n, b⟩ := ⟨⟨by show (-9223372036854775808 : Int) ≤ k; omega, by show k ≤ _; omega⟩, ⟨by show (-9223372036854775808 : Int) ≤ d; omega, by show d ≤ _; omega⟩, ⟨by show (-9223372036854775808 : Int) ≤ n; omega, by show n ≤ _; omega⟩⟩
 refine yR F.mix func14 (by rfl) ntmps14 ?_
 refine yD (yA rfl ?_)
 iterate 3 refine yF ?_
 refine yE (yB (yC (yD (yA rfl ?_))))
 refine yF ?_
 refine yU [] true (cC Γ r hr) ?_
 iterate 2 refine yF ?_
 refine yE (yB (yC (yD (yA rfl ?_))))
 refine yF ?_
 refine yU [] true (by have h := gP Γ hE (Rq.p ⟨k, d, n, b⟩) (by rw [Rq.p, pS hqm]; have := yAw k d n b; show (putW 6 (rqW k d n b)).length ≤ _; omega); rw [GQ_p hqm hqo, gL] at h; exact h) ?_
 iterate 6 refine yF ?_
 refine yE (yB (yC (yD (yD (yA rfl ?_)))))
 iterate 2 refine yF ?_
 refine yE (yB (yC (yJ (yL (yC (yD (yA rfl ?_)))))))
 refine yF ?_
 refine yU [] true (yBW Γ r hr) ?_
 iterate 2 refine yF ?_
 refine yE (yB (yC (yD (yA rfl ?_))))
 iterate 5 refine yF ?_
 refine yE (yB (yC (yD (yA rfl ?_))))
 refine yF ?_
 refine wG [.r 5 2 0, .r 6 3 0, .r 5 1 0, .r 5 1 1, .r 5 1 2] [] [.r 5 1 0, .r 5 1 1, .r 5 1 2] true hG ?_
 refine yF ?_
 refine yE (yB (yC (yD (yD (yA rfl ?_)))))
 refine yF ?_
 refine tF true ?_
 refine yE (yB (yC (xF (yA rfl ?_))))
 iterate 6 refine yF ?_
 refine yE (yB (yC (yD (yA rfl ?_))))
 refine yF ?_
 refine yE (yB (yC (yD (yD (yA rfl ?_)))))
 iterate 2 refine yF ?_
 refine wG [.r 10 0 0] [] [] false ((Rs.As_good Γ hE [k] e (num 0)).plain1 (yEF e k)) ?_ (hv := by (simp (maxSteps := 2000000) [-List.map_map, -List.map_drop, -List.map_take, VwL_cons, xM, xY, vN, xV, xW, xU, Vw_agg, xS, xX, xA, VwL_refl_map, yX, xK, xL, wK, xJ, yW, xC, yV, VwTs_app, List.take_of_length_le, srcL, notIn, ObsVw, SrcOk, pOk, Go.Ot.look, resP, resN, ev, evc, mkS, push_cast, vC, ObsAt, PoiOk]))
 refine yE (yB (yC (xF (yD (yA rfl ?_)))))
 iterate 6 refine yY ?_
 refine yZ [] false (lG Γ ⟨k, e, 0, []⟩ (by simp [tsz]) (by simp)) ?_ (hv := by (simp (maxSteps := 2000000) (disch := first | omega | (simp only [zL] <;> omega) | fail) [-List.map_map, -List.map_drop, -List.map_take, VwL_cons, xM, xY, vN, xV, xW, xU, Vw_agg, xS, xX, xA, VwL_refl_map, yX, xK, xL, wK, xJ, yW, xC, yV, VwTs_app, List.take_of_length_le, srcL, notIn, ObsVw, SrcOk, pOk, Go.Ot.look, resP, resN, ev, evc, mkS, push_cast, List.take_of_length_le, pA] <;> (try omega)))
 iterate 2 refine yY ?_
 refine yE (xO (by kernel_rfl) (yC (yO (yG ?_))))
 refine ⟨.inr rfl, yP [] (by rw [results14]) ?_ ?_ ?_⟩ <;> simp [mbT, qA, pA, wE]
end Go.Proofs.Tryz
