/- Contracts of this program's functions. -/
import Derived.Test.YtkbikblijipceaaGreatDoorSRC4
import Derived.Test.YtkbikblijipceaaGreatDoorOtE
import Derived.Test.YtkbikblijipceaaGreatDoorSQ1
import Derived.Test.YtkbikblijipceaaGreatDoorSVAs
set_option maxHeartbeats 4000000
set_option maxRecDepth 100000
set_option linter.unusedVariables false
set_option linter.unusedSimpArgs false
namespace Go.Proofs.Tryz
open Go Go.Ot
def lgQ (r : Rl) (n : Nat) : List (List UInt8) := (r.log.drop (min n r.log.length)).take 8
attribute [local simp] num bol txt w8 w16 w32 w64 lst cls wE xZ List.take_of_length_le
attribute [local irreducible] wpK wpS uI wH wW wM vC xB Le lgQ
theorem yFQ (Γ : Gl) (r : Rl) (hr : rlS r) (d : Int) (n : Nat) (hn2 : n ≤ 4503599627370496) (b : List UInt8)  : Go.Ot.Good Γ prog 94 [.ptr (.p 0) 0, .agg [.t (num 3), .t (num d), .t (num n), .t (txt b)], .ptr (.p 1) 0] [xZ 31 [.msl (.p 2) 0 r.boxes.length 2, .msl (.p 3) 0 r.log.length 1, .t (txt r.snap), .t (num r.shares), .msl (.p 4) 0 r.last.length 1], xZ 44 [.t (num 3), .t (num 0), .t (num 0), .t (.v (.slice none 0 0))], wI r.boxes, wE 9 txt r.log, wE 3 num r.last] (.t (.v .nilIface)) [some (xZ 31 [.msl (.p 2) 0 r.boxes.length 2, .msl (.p 3) 0 r.log.length 1, .t (txt r.snap), .t (num r.shares), .msl (.p 4) 0 r.last.length 1]), some (xZ 44 [.t (num 3), .t (num 0), .t (num n), .t (lst txt (lgQ r n))]), some (wI r.boxes), some (wE 9 txt r.log), some (wE 3 num r.last)] [] := by
 obtain ⟨hb, hm, hg, hn⟩ := hr
 obtain ⟨k, hk⟩ : ∃ k, min n r.log.length = k := ⟨_, rfl⟩
 have hkl : k ≤ r.log.length := by omega
 obtain ⟨q, hq⟩ : ∃ q : Nat, min (r.log.length - k) 8 = q := ⟨_, rfl⟩
 have hql : q ≤ r.log.length - k := by omega
 have hd : lgQ r n = (r.log.drop k).take q := by
  rw [← hq, lgQ, hk, Nat.min_comm, ← List.take_take]
  congr 1
  exact (List.take_of_length_le (by rw [List.length_drop]; exact Nat.le_refl _)).symm
 have hmd : ((r.log.drop k).take q).map txt = ((r.log.map txt).drop k).take q := by rw [List.map_take, List.map_drop]
 have hml : min q (r.log.length - k) = q := by omega
 have hme : ((r.log.map txt).drop k).take q = ((r.log.drop k).take q).map txt := hmd.symm
 refine yR F.mix func94 (by rfl) ntmps94 ?_
 refine yD (yA rfl ?_)
 iterate 2 refine yF ?_
 refine yE (yB (yC (yD (yA rfl ?_))))
 iterate 11 refine yW ?_
 refine yW (hs := by (simp (disch := first | omega | (simp only [List.length_drop, List.length_take, List.length_map, List.length_append, List.length_cons, List.length_nil, List.length_replicate, List.length_set] <;> omega) | (simp only [push_cast] <;> omega) | fail) only [push_cast, reduceCtorEq, Nat.reduceAdd, Nat.reduceSub, Nat.reduceMul, Nat.reduceEqDiff, Nat.reduceLT, Nat.reduceLeDiff, Nat.reduceMod, Nat.reduceDiv, Int.reduceLE, Int.reduceLT, Int.reduceEq, Int.reduceToNat, Int.reduceAdd, Int.reduceSub, Int.reduceMul, Int.reduceNeg, show min (n : Int) (r.log.length : Int) = (k : Int) from by omega] <;> rfl)) ?_
 iterate 2 refine yW ?_
 refine yE (xP (by kernel_rfl) (yC (yD (yA rfl ?_))))
 iterate 7 refine yW ?_
 refine yW (hs := by (simp (disch := first | omega | (simp only [List.length_drop, List.length_take, List.length_map, List.length_append, List.length_cons, List.length_nil, List.length_replicate, List.length_set] <;> omega) | (simp only [push_cast] <;> omega) | fail) only [push_cast, reduceCtorEq, Nat.reduceAdd, Nat.reduceSub, Nat.reduceMul, Nat.reduceEqDiff, Nat.reduceLT, Nat.reduceLeDiff, Nat.reduceMod, Nat.reduceDiv, Int.reduceLE, Int.reduceLT, Int.reduceEq, Int.reduceToNat, Int.reduceAdd, Int.reduceSub, Int.reduceMul, Int.reduceNeg, show min ((r.log.length : Int) - (k : Int)) 8 = (q : Int) from by omega, show min ((r.log.length - k : Nat) : Int) 8 = (q : Int) from by omega] <;> rfl)) ?_
 refine yW ?_
 refine yV [.p 3] false (vY Γ ((r.log.drop k).take q) (by rw [List.length_take, List.length_drop]; omega)) ?_ (hv := by (simp (maxSteps := 2000000) (disch := first | omega | (simp only [List.length_drop, List.length_take, List.length_map, List.length_append, List.length_cons, List.length_nil, List.length_replicate, List.length_set] <;> omega) | fail) [-List.map_map, -List.map_drop, -List.map_take, VwL_cons, xN, xY, vU, xV, xW, xU, Vw_agg, xS, xX, xC, VwL_refl_map, xA, xL, xM, wK, xK, yZ, xE, yY, VwTs_app, List.take_of_length_le, srcL, notIn, ObsVw, SrcOk, pOk, Go.Ot.look, resP, resN, ev, evc, mkS, push_cast, List.take_of_length_le, hmd, hml] <;> (try omega)))
 iterate 6 refine yW ?_
 refine yE (xP (by kernel_rfl) (yC (yD (yA rfl ?_))))
 refine yF ?_
 refine yE (yB (yC (yP ?_)))
 refine ⟨.inr rfl, yQ [(.p 0, .p 0), (.p 1, .p 1), (.p 2, .p 2), (.p 3, .p 3), (.p 4, .p 4)] (by rw [results94]) ?_ ?_ ?_⟩ <;> simp [-List.map_set, -List.map_replicate, -List.reduceReplicate, -List.map_map, -List.map_drop, -List.map_take, mbT, wI, hd, hmd, hml]
theorem done_1 (Γ : Gl) (r r' : Rl) (d n n' : Int) (hd : 0 ≤ d ∧ d < r.boxes.length) (hn : 0 ≤ n ∧ n ≤ 4503599627370496) (b : List UInt8) (l' : List (List UInt8)) (hG : Go.Ot.Good Γ prog 92 [.ptr (.p 0) 0, .agg [.t (num 1), .t (num d), .t (num n), .t (txt b)], .ptr (.p 1) 0] [xZ 31 [.msl (.p 2) 0 r.boxes.length 2, .msl (.p 3) 0 r.log.length 1, .t (txt r.snap), .t (num r.shares), .msl (.p 4) 0 r.last.length 1], xZ 44 [.t (num 1), .t (num 0), .t (num 0), .t (.v (.slice none 0 0))], wI r.boxes, wE 9 txt r.log, wE 3 num r.last] (.t (.v .nilIface)) [some (xZ 31 [.msl (.p 2) 0 r'.boxes.length 2, .msl (.p 3) 0 r'.log.length 1, .t (txt r'.snap), .t (num r'.shares), .msl (.p 4) 0 r'.last.length 1]), some (xZ 44 [.t (num 1), .t (num 0), .t (num n'), .t (lst txt l')]), some (wI r'.boxes), some (wE 9 txt r'.log), some (wE 3 num r'.last)] []) : Go.Ot.Good Γ prog 38 [.ptr (.p 0) 0, .agg [.t (num 1), .t (num d), .t (num n), .t (txt b)], .ptr (.p 1) 0] [xZ 31 [.msl (.p 2) 0 r.boxes.length 2, .msl (.p 3) 0 r.log.length 1, .t (txt r.snap), .t (num r.shares), .msl (.p 4) 0 r.last.length 1], xZ 44 [.t (num 1), .t (num 0), .t (num 0), .t (.v (.slice none 0 0))], wI r.boxes, wE 9 txt r.log, wE 3 num r.last] (.t (.v .nilIface)) [some (xZ 31 [.msl (.p 2) 0 r'.boxes.length 2, .msl (.p 3) 0 r'.log.length 1, .t (txt r'.snap), .t (num r'.shares), .msl (.p 4) 0 r'.last.length 1]), some (xZ 44 [.t (num 1), .t (num 0), .t (num n'), .t (lst txt l')]), some (wI r'.boxes), some (wE 9 txt r'.log), some (wE 3 num r'.last)] [] := by
 refine yR F.mix func38 (by rfl) ntmps38 ?_
 refine yD (yA rfl ?_)
 iterate 2 refine yF ?_
 refine yE (yB (yC (yD (yD (yA rfl ?_)))))
 iterate 4 refine yW ?_
 iterate 8 refine vR ?_
 iterate 2 refine yW ?_
 iterate 2 refine vR ?_
 refine sY [] false (uJ Γ n hn.1 hn.2) ?_
 refine vR ?_
 refine yW ?_
 refine yE (xP (by kernel_rfl) (yC (yJ (yK (yC (yD (yD (yA rfl ?_))))))))
 iterate 2 refine yF ?_
 refine yE (yB (yC (yI (yD (yI (yD (yI (yD (yI (yD (yI (yD (yI (yD (yI (yD (yD (yD (yA rfl ?_)))))))))))))))))))
 iterate 2 refine yF ?_
 refine yE (yB (yC (xD (xQ (yM (yM (yL (yC (yD (yD (yA rfl ?_)))))))))))
 iterate 3 refine yF ?_
 refine wD [.p 0, .p 1, .p 2, .p 3, .p 4] [] [.p 2, .p 3, .p 4] true hG ?_
 refine yF ?_
 refine yE (yB (yC (yP (yG (yH (yG (yH (yG (yH (yG (yH (yG (yH (yG (yH (yG ?_))))))))))))))))
 refine ⟨.inr rfl, yQ [(.p 0, .p 0), (.p 1, .p 1), (.p 2, .p 2), (.p 3, .p 3), (.p 4, .p 4)] (by rw [results38]) ?_ ?_ ?_⟩ <;> simp [-List.map_set, -List.map_replicate, -List.reduceReplicate, -List.map_map, -List.map_drop, -List.map_take, mbT, wI]
theorem done_1e (Γ : Gl) (r r' : Rl) (d n n' : Int) (hd : 0 ≤ d ∧ d < r.boxes.length) (hn : 0 ≤ n ∧ n ≤ 4503599627370496) (b : List UInt8) (l' : List (List UInt8)) (hG : Go.Ot.Good Γ prog 92 [.ptr (.p 0) 0, .agg [.t (num 1), .t (num d), .t (num n), .t (txt b)], .ptr (.p 1) 0] [xZ 31 [.msl (.p 2) 0 r.boxes.length 2, .msl (.p 3) 0 r.log.length 1, .t (txt r.snap), .t (num r.shares), .msl (.p 4) 0 r.last.length 1], xZ 44 [.t (num 1), .t (num 0), .t (num 0), .t (.v (.slice none 0 0))], wI r.boxes, wE 9 txt r.log, wE 3 num r.last] (.t (.ifc 88 (.agg [num 12]))) [some (xZ 31 [.msl (.p 2) 0 r'.boxes.length 2, .msl (.p 3) 0 r'.log.length 1, .t (txt r'.snap), .t (num r'.shares), .msl (.p 4) 0 r'.last.length 1]), some (xZ 44 [.t (num 1), .t (num 0), .t (num n'), .t (lst txt l')]), some (wI r'.boxes), some (wE 9 txt r'.log), some (wE 3 num r'.last)] []) : Go.Ot.Good Γ prog 38 [.ptr (.p 0) 0, .agg [.t (num 1), .t (num d), .t (num n), .t (txt b)], .ptr (.p 1) 0] [xZ 31 [.msl (.p 2) 0 r.boxes.length 2, .msl (.p 3) 0 r.log.length 1, .t (txt r.snap), .t (num r.shares), .msl (.p 4) 0 r.last.length 1], xZ 44 [.t (num 1), .t (num 0), .t (num 0), .t (.v (.slice none 0 0))], wI r.boxes, wE 9 txt r.log, wE 3 num r.last] (.t (.ifc 88 (.agg [num 12]))) [some (xZ 31 [.msl (.p 2) 0 r'.boxes.length 2, .msl (.p 3) 0 r'.log.length 1, .t (txt r'.snap), .t (num r'.shares), .msl (.p 4) 0 r'.last.length 1]), some (xZ 44 [.t (num 1), .t (num 0), .t (num n'), .t (lst txt l')]), some (wI r'.boxes), some (wE 9 txt r'.log), some (wE 3 num r'.last)] [] := by
 refine yR F.mix func38 (by rfl) ntmps38 ?_
 refine yD (yA rfl ?_)
 iterate 2 refine yF ?_
 refine yE (yB (yC (yD (yD (yA rfl ?_)))))
 iterate 4 refine yW ?_
 iterate 8 refine vR ?_
 iterate 2 refine yW ?_
 iterate 2 refine vR ?_
 refine sY [] false (uJ Γ n hn.1 hn.2) ?_
 refine vR ?_
 refine yW ?_
 refine yE (xP (by kernel_rfl) (yC (yJ (yK (yC (yD (yD (yA rfl ?_))))))))
 iterate 2 refine yF ?_
 refine yE (yB (yC (yI (yD (yI (yD (yI (yD (yI (yD (yI (yD (yI (yD (yI (yD (yD (yD (yA rfl ?_)))))))))))))))))))
 iterate 2 refine yF ?_
 refine yE (yB (yC (xD (xQ (yM (yM (yL (yC (yD (yD (yA rfl ?_)))))))))))
 iterate 3 refine yF ?_
 refine wD [.p 0, .p 1, .p 2, .p 3, .p 4] [] [.p 2, .p 3, .p 4] true hG ?_
 refine yF ?_
 refine yE (yB (yC (yP (yG (yH (yG (yH (yG (yH (yG (yH (yG (yH (yG (yH (yG ?_))))))))))))))))
 refine ⟨.inr rfl, yQ [(.p 0, .p 0), (.p 1, .p 1), (.p 2, .p 2), (.p 3, .p 3), (.p 4, .p 4)] (by rw [results38]) ?_ ?_ ?_⟩ <;> simp [-List.map_set, -List.map_replicate, -List.reduceReplicate, -List.map_map, -List.map_drop, -List.map_take, mbT, wI]
theorem done_2 (Γ : Gl) (r r' : Rl) (d n n' : Int) (hd : 0 ≤ d ∧ d < r.boxes.length) (hn : 0 ≤ n ∧ n ≤ 4503599627370496) (b : List UInt8) (l' : List (List UInt8)) (hG : Go.Ot.Good Γ prog 93 [.ptr (.p 0) 0, .agg [.t (num 2), .t (num d), .t (num n), .t (txt b)], .ptr (.p 1) 0] [xZ 31 [.msl (.p 2) 0 r.boxes.length 2, .msl (.p 3) 0 r.log.length 1, .t (txt r.snap), .t (num r.shares), .msl (.p 4) 0 r.last.length 1], xZ 44 [.t (num 2), .t (num 0), .t (num 0), .t (.v (.slice none 0 0))], wI r.boxes, wE 9 txt r.log, wE 3 num r.last] (.t (.v .nilIface)) [some (xZ 31 [.msl (.p 2) 0 r'.boxes.length 2, .msl (.p 3) 0 r'.log.length 1, .t (txt r'.snap), .t (num r'.shares), .msl (.p 4) 0 r'.last.length 1]), some (xZ 44 [.t (num 2), .t (num 0), .t (num n'), .t (lst txt l')]), some (wI r'.boxes), some (wE 9 txt r'.log), some (wE 3 num r'.last)] []) : Go.Ot.Good Γ prog 38 [.ptr (.p 0) 0, .agg [.t (num 2), .t (num d), .t (num n), .t (txt b)], .ptr (.p 1) 0] [xZ 31 [.msl (.p 2) 0 r.boxes.length 2, .msl (.p 3) 0 r.log.length 1, .t (txt r.snap), .t (num r.shares), .msl (.p 4) 0 r.last.length 1], xZ 44 [.t (num 2), .t (num 0), .t (num 0), .t (.v (.slice none 0 0))], wI r.boxes, wE 9 txt r.log, wE 3 num r.last] (.t (.v .nilIface)) [some (xZ 31 [.msl (.p 2) 0 r'.boxes.length 2, .msl (.p 3) 0 r'.log.length 1, .t (txt r'.snap), .t (num r'.shares), .msl (.p 4) 0 r'.last.length 1]), some (xZ 44 [.t (num 2), .t (num 0), .t (num n'), .t (lst txt l')]), some (wI r'.boxes), some (wE 9 txt r'.log), some (wE 3 num r'.last)] [] := by
 refine yR F.mix func38 (by rfl) ntmps38 ?_
 refine yD (yA rfl ?_)
 iterate 2 refine yF ?_
 refine yE (yB (yC (yD (yD (yA rfl ?_)))))
 iterate 4 refine yW ?_
 iterate 8 refine vR ?_
 iterate 2 refine yW ?_
 iterate 2 refine vR ?_
 refine sY [] false (uJ Γ n hn.1 hn.2) ?_
 refine vR ?_
 refine yW ?_
 refine yE (xP (by kernel_rfl) (yC (yJ (yK (yC (yD (yD (yA rfl ?_))))))))
 iterate 2 refine yF ?_
 refine yE (yB (yC (yI (yD (yI (yD (yI (yD (yI (yD (yI (yD (yI (yD (yI (yD (yD (yD (yA rfl ?_)))))))))))))))))))
 iterate 2 refine yF ?_
 refine yE (yB (yC (yJ (yK (yC (yD (yD (yA rfl ?_))))))))
 iterate 2 refine yF ?_
 refine yE (yB (yC (xD (xQ (yM (yM (wX (by decide) (yM (yL (yC (yD (yD (yA rfl ?_)))))))))))))
 iterate 3 refine yF ?_
 refine wD [.p 0, .p 1, .p 2, .p 3, .p 4] [] [.p 2, .p 3, .p 4] true hG ?_
 refine yF ?_
 refine yE (yB (yC (yP (yG (yH (yG (yH (yG (yH (yG (yH (yG (yH (yG ?_))))))))))))))
 refine ⟨.inr rfl, yQ [(.p 0, .p 0), (.p 1, .p 1), (.p 2, .p 2), (.p 3, .p 3), (.p 4, .p 4)] (by rw [results38]) ?_ ?_ ?_⟩ <;> simp [-List.map_set, -List.map_replicate, -List.reduceReplicate, -List.map_map, -List.map_drop, -List.map_take, mbT, wI]
theorem done_3 (Γ : Gl) (r r' : Rl) (d n n' : Int) (hd : 0 ≤ d ∧ d < r.boxes.length) (hn : 0 ≤ n ∧ n ≤ 4503599627370496) (b : List UInt8) (l' : List (List UInt8)) (hG : Go.Ot.Good Γ prog 94 [.ptr (.p 0) 0, .agg [.t (num 3), .t (num d), .t (num n), .t (txt b)], .ptr (.p 1) 0] [xZ 31 [.msl (.p 2) 0 r.boxes.length 2, .msl (.p 3) 0 r.log.length 1, .t (txt r.snap), .t (num r.shares), .msl (.p 4) 0 r.last.length 1], xZ 44 [.t (num 3), .t (num 0), .t (num 0), .t (.v (.slice none 0 0))], wI r.boxes, wE 9 txt r.log, wE 3 num r.last] (.t (.v .nilIface)) [some (xZ 31 [.msl (.p 2) 0 r'.boxes.length 2, .msl (.p 3) 0 r'.log.length 1, .t (txt r'.snap), .t (num r'.shares), .msl (.p 4) 0 r'.last.length 1]), some (xZ 44 [.t (num 3), .t (num 0), .t (num n'), .t (lst txt l')]), some (wI r'.boxes), some (wE 9 txt r'.log), some (wE 3 num r'.last)] []) : Go.Ot.Good Γ prog 38 [.ptr (.p 0) 0, .agg [.t (num 3), .t (num d), .t (num n), .t (txt b)], .ptr (.p 1) 0] [xZ 31 [.msl (.p 2) 0 r.boxes.length 2, .msl (.p 3) 0 r.log.length 1, .t (txt r.snap), .t (num r.shares), .msl (.p 4) 0 r.last.length 1], xZ 44 [.t (num 3), .t (num 0), .t (num 0), .t (.v (.slice none 0 0))], wI r.boxes, wE 9 txt r.log, wE 3 num r.last] (.t (.v .nilIface)) [some (xZ 31 [.msl (.p 2) 0 r'.boxes.length 2, .msl (.p 3) 0 r'.log.length 1, .t (txt r'.snap), .t (num r'.shares), .msl (.p 4) 0 r'.last.length 1]), some (xZ 44 [.t (num 3), .t (num 0), .t (num n'), .t (lst txt l')]), some (wI r'.boxes), some (wE 9 txt r'.log), some (wE 3 num r'.last)] [] := by
 refine yR F.mix func38 (by rfl) ntmps38 ?_
 refine yD (yA rfl ?_)
 iterate 2 refine yF ?_
 refine yE (yB (yC (yD (yD (yA rfl ?_)))))
 iterate 4 refine yW ?_
 iterate 8 refine vR ?_
 iterate 2 refine yW ?_
 iterate 2 refine vR ?_
 refine sY [] false (uJ Γ n hn.1 hn.2) ?_
 refine vR ?_
 refine yW ?_
 refine yE (xP (by kernel_rfl) (yC (yJ (yK (yC (yD (yD (yA rfl ?_))))))))
 iterate 2 refine yF ?_
 refine yE (yB (yC (yI (yD (yI (yD (yI (yD (yI (yD (yI (yD (yI (yD (yI (yD (yD (yD (yA rfl ?_)))))))))))))))))))
 iterate 2 refine yF ?_
 refine yE (yB (yC (yJ (yK (yC (yD (yD (yA rfl ?_))))))))
 iterate 2 refine yF ?_
 refine yE (yB (yC (yJ (yK (yC (yD (yD (yA rfl ?_))))))))
 iterate 2 refine yF ?_
 refine yE (yB (yC (xD (xQ (yM (yM (wX (by decide) (yM (wX (by decide) (yM (yL (yC (yD (yD (yA rfl ?_)))))))))))))))
 iterate 3 refine yF ?_
 refine wD [.p 0, .p 1, .p 2, .p 3, .p 4] [] [.p 2, .p 3, .p 4] true hG ?_
 refine yF ?_
 refine yE (yB (yC (yP (yG (yH (yG (yH (yG (yH (yG (yH (yG ?_))))))))))))
 refine ⟨.inr rfl, yQ [(.p 0, .p 0), (.p 1, .p 1), (.p 2, .p 2), (.p 3, .p 3), (.p 4, .p 4)] (by rw [results38]) ?_ ?_ ?_⟩ <;> simp [-List.map_set, -List.map_replicate, -List.reduceReplicate, -List.map_map, -List.map_drop, -List.map_take, mbT, wI]
theorem yHb (Γ : Gl) (r r' : Rl) (d n n' : Int) (hd : 0 ≤ d ∧ d < r.boxes.length) (hn : 0 ≤ n ∧ n ≤ 4503599627370496) (b : List UInt8) (l' : List (List UInt8)) (hG : Go.Ot.Good Γ prog 95 [.ptr (.p 0) 0, .agg [.t (num 4), .t (num d), .t (num n), .t (txt b)], .ptr (.p 1) 0] [xZ 31 [.msl (.p 2) 0 r.boxes.length 2, .msl (.p 3) 0 r.log.length 1, .t (txt r.snap), .t (num r.shares), .msl (.p 4) 0 r.last.length 1], xZ 44 [.t (num 4), .t (num 0), .t (num 0), .t (.v (.slice none 0 0))], wI r.boxes, wE 9 txt r.log, wE 3 num r.last] (.t (.v .nilIface)) [some (xZ 31 [.msl (.p 2) 0 r'.boxes.length 2, .msl (.p 3) 0 r'.log.length 1, .t (txt r'.snap), .t (num r'.shares), .msl (.p 4) 0 r'.last.length 1]), some (xZ 44 [.t (num 4), .t (num 0), .t (num n'), .t (lst txt l')]), some (wI r'.boxes), some (wE 9 txt r'.log), some (wE 3 num r'.last)] []) : Go.Ot.Good Γ prog 38 [.ptr (.p 0) 0, .agg [.t (num 4), .t (num d), .t (num n), .t (txt b)], .ptr (.p 1) 0] [xZ 31 [.msl (.p 2) 0 r.boxes.length 2, .msl (.p 3) 0 r.log.length 1, .t (txt r.snap), .t (num r.shares), .msl (.p 4) 0 r.last.length 1], xZ 44 [.t (num 4), .t (num 0), .t (num 0), .t (.v (.slice none 0 0))], wI r.boxes, wE 9 txt r.log, wE 3 num r.last] (.t (.v .nilIface)) [some (xZ 31 [.msl (.p 2) 0 r'.boxes.length 2, .msl (.p 3) 0 r'.log.length 1, .t (txt r'.snap), .t (num r'.shares), .msl (.p 4) 0 r'.last.length 1]), some (xZ 44 [.t (num 4), .t (num 0), .t (num n'), .t (lst txt l')]), some (wI r'.boxes), some (wE 9 txt r'.log), some (wE 3 num r'.last)] [] := by
 refine yR F.mix func38 (by rfl) ntmps38 ?_
 refine yD (yA rfl ?_)
 iterate 2 refine yF ?_
 refine yE (yB (yC (yD (yD (yA rfl ?_)))))
 iterate 4 refine yW ?_
 iterate 8 refine vR ?_
 iterate 2 refine yW ?_
 iterate 2 refine vR ?_
 refine sY [] false (uJ Γ n hn.1 hn.2) ?_
 refine vR ?_
 refine yW ?_
 refine yE (xP (by kernel_rfl) (yC (yJ (yK (yC (yD (yD (yA rfl ?_))))))))
 iterate 2 refine yF ?_
 refine yE (yB (yC (yI (yD (yI (yD (yI (yD (yI (yD (yI (yD (yI (yD (yI (yD (yD (yD (yA rfl ?_)))))))))))))))))))
 iterate 2 refine yF ?_
 refine yE (yB (yC (yJ (yK (yC (yD (yD (yA rfl ?_))))))))
 iterate 2 refine yF ?_
 refine yE (yB (yC (yJ (yK (yC (yD (yD (yA rfl ?_))))))))
 iterate 2 refine yF ?_
 refine yE (yB (yC (yJ (yK (yC (yD (yD (yA rfl ?_))))))))
 iterate 2 refine yF ?_
 refine yE (yB (yC (xD (xQ (yM (yM (wX (by decide) (yM (wX (by decide) (yM (wX (by decide) (yM (yL (yC (yD (yD (yA rfl ?_)))))))))))))))))
 iterate 3 refine yF ?_
 refine wD [.p 0, .p 1, .p 2, .p 3, .p 4] [] [.p 2, .p 3, .p 4] true hG ?_
 refine yF ?_
 refine yE (yB (yC (yP (yG (yH (yG (yH (yG (yH (yG ?_))))))))))
 refine ⟨.inr rfl, yQ [(.p 0, .p 0), (.p 1, .p 1), (.p 2, .p 2), (.p 3, .p 3), (.p 4, .p 4)] (by rw [results38]) ?_ ?_ ?_⟩ <;> simp [-List.map_set, -List.map_replicate, -List.reduceReplicate, -List.map_map, -List.map_drop, -List.map_take, mbT, wI]
theorem yIN (Γ : Gl) (r r' : Rl) (d n n' : Int) (hd : 0 ≤ d ∧ d < r.boxes.length) (hn : 0 ≤ n ∧ n ≤ 4503599627370496) (b : List UInt8) (l' : List (List UInt8)) (hG : Go.Ot.Good Γ prog 95 [.ptr (.p 0) 0, .agg [.t (num 4), .t (num d), .t (num n), .t (txt b)], .ptr (.p 1) 0] [xZ 31 [.msl (.p 2) 0 r.boxes.length 2, .msl (.p 3) 0 r.log.length 1, .t (txt r.snap), .t (num r.shares), .msl (.p 4) 0 r.last.length 1], xZ 44 [.t (num 4), .t (num 0), .t (num 0), .t (.v (.slice none 0 0))], wI r.boxes, wE 9 txt r.log, wE 3 num r.last] (.t (.ifc 88 (.agg [num 11]))) [some (xZ 31 [.msl (.p 2) 0 r'.boxes.length 2, .msl (.p 3) 0 r'.log.length 1, .t (txt r'.snap), .t (num r'.shares), .msl (.p 4) 0 r'.last.length 1]), some (xZ 44 [.t (num 4), .t (num 0), .t (num n'), .t (lst txt l')]), some (wI r'.boxes), some (wE 9 txt r'.log), some (wE 3 num r'.last)] []) : Go.Ot.Good Γ prog 38 [.ptr (.p 0) 0, .agg [.t (num 4), .t (num d), .t (num n), .t (txt b)], .ptr (.p 1) 0] [xZ 31 [.msl (.p 2) 0 r.boxes.length 2, .msl (.p 3) 0 r.log.length 1, .t (txt r.snap), .t (num r.shares), .msl (.p 4) 0 r.last.length 1], xZ 44 [.t (num 4), .t (num 0), .t (num 0), .t (.v (.slice none 0 0))], wI r.boxes, wE 9 txt r.log, wE 3 num r.last] (.t (.ifc 88 (.agg [num 11]))) [some (xZ 31 [.msl (.p 2) 0 r'.boxes.length 2, .msl (.p 3) 0 r'.log.length 1, .t (txt r'.snap), .t (num r'.shares), .msl (.p 4) 0 r'.last.length 1]), some (xZ 44 [.t (num 4), .t (num 0), .t (num n'), .t (lst txt l')]), some (wI r'.boxes), some (wE 9 txt r'.log), some (wE 3 num r'.last)] [] := by
 refine yR F.mix func38 (by rfl) ntmps38 ?_
 refine yD (yA rfl ?_)
 iterate 2 refine yF ?_
 refine yE (yB (yC (yD (yD (yA rfl ?_)))))
 iterate 4 refine yW ?_
 iterate 8 refine vR ?_
 iterate 2 refine yW ?_
 iterate 2 refine vR ?_
 refine sY [] false (uJ Γ n hn.1 hn.2) ?_
 refine vR ?_
 refine yW ?_
 refine yE (xP (by kernel_rfl) (yC (yJ (yK (yC (yD (yD (yA rfl ?_))))))))
 iterate 2 refine yF ?_
 refine yE (yB (yC (yI (yD (yI (yD (yI (yD (yI (yD (yI (yD (yI (yD (yI (yD (yD (yD (yA rfl ?_)))))))))))))))))))
 iterate 2 refine yF ?_
 refine yE (yB (yC (yJ (yK (yC (yD (yD (yA rfl ?_))))))))
 iterate 2 refine yF ?_
 refine yE (yB (yC (yJ (yK (yC (yD (yD (yA rfl ?_))))))))
 iterate 2 refine yF ?_
 refine yE (yB (yC (yJ (yK (yC (yD (yD (yA rfl ?_))))))))
 iterate 2 refine yF ?_
 refine yE (yB (yC (xD (xQ (yM (yM (wX (by decide) (yM (wX (by decide) (yM (wX (by decide) (yM (yL (yC (yD (yD (yA rfl ?_)))))))))))))))))
 iterate 3 refine yF ?_
 refine wD [.p 0, .p 1, .p 2, .p 3, .p 4] [] [.p 2, .p 3, .p 4] true hG ?_
 refine yF ?_
 refine yE (yB (yC (yP (yG (yH (yG (yH (yG (yH (yG ?_))))))))))
 refine ⟨.inr rfl, yQ [(.p 0, .p 0), (.p 1, .p 1), (.p 2, .p 2), (.p 3, .p 3), (.p 4, .p 4)] (by rw [results38]) ?_ ?_ ?_⟩ <;> simp [-List.map_set, -List.map_replicate, -List.reduceReplicate, -List.map_map, -List.map_drop, -List.map_take, mbT, wI]
end Go.Proofs.Tryz

namespace Go.Proofs.Tryz
open Go Go.Ot
def erS (n k : Int) : T := .ifc 86 (.agg [num k, .ifc 88 (.agg [num n])])
@[push_cast] theorem erS_eq (n k : Int) : erS n k = .ifc 86 (.agg [num k, .ifc 88 (.agg [num n])]) := rfl
theorem yEd (n k : Int) : (erS n k).plain = some (Rs.wv (.agg #[.int .i64 n]) [k]) := by simp [erS, T.plain, T.plains, num, Rs.wv, Rs.wvT, Rs.wvV]
attribute [local simp] num bol txt w8 w16 w32 w64 lst cls wE xZ List.take_of_length_le
attribute [local irreducible] wpK wpS uI wH wW wM vC xB Le rdS lpW rdW got tB mayW uZ putW nb u64 qV GQ GP tsz wTs Rq.p Rp.p
theorem step_ok (Γ : Gl) (hE : EG Γ) (r r' : Rl) (hr : rlS r) (k d n n' : Int) (hk : 0 ≤ k ∧ k ≤ 1000) (hd : -1000 ≤ d ∧ d ≤ 1000) (hn : -9223372036854775808 ≤ n ∧ n ≤ 9223372036854775807) (b : List UInt8) (hb : b.length ≤ 900000) (l' : List (List UInt8)) (htz : tsz l' ≤ 9000000) (hll : l'.length ≤ 900000) (hG : Go.Ot.Good Γ prog 38 [.ptr (.p 0) 0, .agg [.t (num k), .t (num d), .t (num n), .t (txt b)], .ptr (.p 1) 0] [xZ 31 [.msl (.p 2) 0 r.boxes.length 2, .msl (.p 3) 0 r.log.length 1, .t (txt r.snap), .t (num r.shares), .msl (.p 4) 0 r.last.length 1], xZ 44 [.t (num k), .t (num 0), .t (num 0), .t (.v (.slice none 0 0))], wI r.boxes, wE 9 txt r.log, wE 3 num r.last] (.t (.v .nilIface)) [some (xZ 31 [.msl (.p 2) 0 r'.boxes.length 2, .msl (.p 3) 0 r'.log.length 1, .t (txt r'.snap), .t (num r'.shares), .msl (.p 4) 0 r'.last.length 1]), some (xZ 44 [.t (num k), .t (num 0), .t (num n'), .t (lst txt l')]), some (wI r'.boxes), some (wE 9 txt r'.log), some (wE 3 num r'.last)] []) : Go.Ot.Good Γ prog 14 [.agg [.t (.sl r.boxes.length (r.boxes.flatMap mbT)), .t (lst txt r.log), .t (txt r.snap), .t (num r.shares), .t (lst num r.last)], .t (txt (Rq.p ⟨k, d, n, b⟩))] [] (.tup [.agg [.t (.sl r'.boxes.length (r'.boxes.flatMap mbT)), .t (lst txt r'.log), .t (txt r'.snap), .t (num r'.shares), .t (lst num r'.last)], .t (txt (Rp.p ⟨k, 0, n', l'⟩))]) [] [] := by
 have hqm : mayW 6 (Rq.w ⟨k, d, n, b⟩) = true := by rw [Rq.w, yAd]; exact decide_eq_true (by show b.length ≤ _; omega)
 have hqo : Rq.ok ⟨k, d, n, b⟩ := ⟨⟨by show (-9223372036854775808 : Int) ≤ k; omega, by show k ≤ _; omega⟩, ⟨by show (-9223372036854775808 : Int) ≤ d; omega, by show d ≤ _; omega⟩, ⟨by show (-9223372036854775808 : Int) ≤ n; omega, by show n ≤ _; omega⟩⟩
 have hal := jO (l := r'.boxes) rfl
 refine yR F.mix func14 (by rfl) ntmps14 ?_
 refine yD (yA rfl ?_)
 iterate 3 refine yF ?_
 refine yE (yB (yC (yD (yA rfl ?_))))
 refine yF ?_
 refine yU [] true (dM Γ r hr) ?_
 iterate 2 refine yF ?_
 refine yE (yB (yC (yD (yA rfl ?_))))
 refine yF ?_
 refine yU [] true (by have h := gG Γ hE (Rq.p ⟨k, d, n, b⟩) (by rw [Rq.p, pR hqm]; have := yAe k d n b; show (putW 6 (rqW k d n b)).length ≤ _; omega); rw [GQ_p hqm hqo, gC] at h; exact h) ?_
 iterate 6 refine yF ?_
 refine yE (yB (yC (yD (yD (yA rfl ?_)))))
 iterate 2 refine yF ?_
 refine yE (yB (yC (yJ (yK (yC (yD (yA rfl ?_)))))))
 refine yF ?_
 refine yU [] true (yBy Γ r hr) ?_
 iterate 2 refine yF ?_
 refine yE (yB (yC (yD (yA rfl ?_))))
 iterate 5 refine yF ?_
 refine yE (yB (yC (yD (yA rfl ?_))))
 refine yF ?_
 refine wD [.r 5 2 0, .r 6 3 0, .r 5 1 0, .r 5 1 1, .r 5 1 2] [] [.r 5 1 0, .r 5 1 1, .r 5 1 2] true hG ?_
 refine yF ?_
 refine yE (yB (yC (yD (yD (yA rfl ?_)))))
 refine yF ?_
 refine vP true ?_
 refine yE (yB (yC (yJ (yK (yC (yD (yA rfl ?_)))))))
 refine yF ?_
 refine yE (yB (yC (yD (yD (yA rfl ?_)))))
 iterate 2 refine yF ?_
 refine wD [.r 10 0 0] [] [] false (Rs.Asnil_good Γ (num 0)) ?_
 refine yE (yB (yC (yJ (yK (yC (yD (yA rfl ?_)))))))
 iterate 2 refine yW ?_
 refine yV [] false (lD Γ ⟨k, 0, n', l'⟩ (by show tsz l' ≤ _; omega) (by show l'.length ≤ _; omega)) ?_
 iterate 2 refine yW ?_
 refine yE (xP (by kernel_rfl) (yC (yP ?_)))
 refine ⟨.inr rfl, yQ [] (by rw [results14]) ?_ ?_ ?_⟩ <;> simp [-List.map_set, -List.map_replicate, -List.reduceReplicate, -List.map_map, -List.map_drop, -List.map_take, mbT, qA, pA, wI, hal, pH, -List.length_flatMap]
theorem yE6 (Γ : Gl) (e : Int) (hE : EG Γ) (r r' : Rl) (hr : rlS r) (k d n n' : Int) (hk : 0 ≤ k ∧ k ≤ 1000) (hd : -1000 ≤ d ∧ d ≤ 1000) (hn : -9223372036854775808 ≤ n ∧ n ≤ 9223372036854775807) (b : List UInt8) (hb : b.length ≤ 900000) (l' : List (List UInt8)) (htz : tsz l' ≤ 9000000) (hll : l'.length ≤ 900000) (hG : Go.Ot.Good Γ prog 38 [.ptr (.p 0) 0, .agg [.t (num k), .t (num d), .t (num n), .t (txt b)], .ptr (.p 1) 0] [xZ 31 [.msl (.p 2) 0 r.boxes.length 2, .msl (.p 3) 0 r.log.length 1, .t (txt r.snap), .t (num r.shares), .msl (.p 4) 0 r.last.length 1], xZ 44 [.t (num k), .t (num 0), .t (num 0), .t (.v (.slice none 0 0))], wI r.boxes, wE 9 txt r.log, wE 3 num r.last] (.t (.ifc 88 (.agg [num e]))) [some (xZ 31 [.msl (.p 2) 0 r'.boxes.length 2, .msl (.p 3) 0 r'.log.length 1, .t (txt r'.snap), .t (num r'.shares), .msl (.p 4) 0 r'.last.length 1]), some (xZ 44 [.t (num k), .t (num 0), .t (num n'), .t (lst txt l')]), some (wI r'.boxes), some (wE 9 txt r'.log), some (wE 3 num r'.last)] []) : Go.Ot.Good Γ prog 14 [.agg [.t (.sl r.boxes.length (r.boxes.flatMap mbT)), .t (lst txt r.log), .t (txt r.snap), .t (num r.shares), .t (lst num r.last)], .t (txt (Rq.p ⟨k, d, n, b⟩))] [] (.tup [.agg [.t (.sl r.boxes.length (r.boxes.flatMap mbT)), .t (lst txt r.log), .t (txt r.snap), .t (num r.shares), .t (lst num r.last)], .t (txt (Rp.p ⟨k, e, 0, []⟩))]) [] [] := by
 have hqm : mayW 6 (Rq.w ⟨k, d, n, b⟩) = true := by rw [Rq.w, yAd]; exact decide_eq_true (by show b.length ≤ _; omega)
 have hqo : Rq.ok ⟨k, d, n, b⟩ := ⟨⟨by show (-9223372036854775808 : Int) ≤ k; omega, by show k ≤ _; omega⟩, ⟨by show (-9223372036854775808 : Int) ≤ d; omega, by show d ≤ _; omega⟩, ⟨by show (-9223372036854775808 : Int) ≤ n; omega, by show n ≤ _; omega⟩⟩
 refine yR F.mix func14 (by rfl) ntmps14 ?_
 refine yD (yA rfl ?_)
 iterate 3 refine yF ?_
 refine yE (yB (yC (yD (yA rfl ?_))))
 refine yF ?_
 refine yU [] true (dM Γ r hr) ?_
 iterate 2 refine yF ?_
 refine yE (yB (yC (yD (yA rfl ?_))))
 refine yF ?_
 refine yU [] true (by have h := gG Γ hE (Rq.p ⟨k, d, n, b⟩) (by rw [Rq.p, pR hqm]; have := yAe k d n b; show (putW 6 (rqW k d n b)).length ≤ _; omega); rw [GQ_p hqm hqo, gC] at h; exact h) ?_
 iterate 6 refine yF ?_
 refine yE (yB (yC (yD (yD (yA rfl ?_)))))
 iterate 2 refine yF ?_
 refine yE (yB (yC (yJ (yK (yC (yD (yA rfl ?_)))))))
 refine yF ?_
 refine yU [] true (yBy Γ r hr) ?_
 iterate 2 refine yF ?_
 refine yE (yB (yC (yD (yA rfl ?_))))
 iterate 5 refine yF ?_
 refine yE (yB (yC (yD (yA rfl ?_))))
 refine yF ?_
 refine wD [.r 5 2 0, .r 6 3 0, .r 5 1 0, .r 5 1 1, .r 5 1 2] [] [.r 5 1 0, .r 5 1 1, .r 5 1 2] true hG ?_
 refine yF ?_
 refine yE (yB (yC (yD (yD (yA rfl ?_)))))
 refine yF ?_
 refine tE true ?_
 refine yE (yB (yC (xD (yA rfl ?_))))
 iterate 6 refine yF ?_
 refine yE (yB (yC (yD (yA rfl ?_))))
 refine yF ?_
 refine yE (yB (yC (yD (yD (yA rfl ?_)))))
 iterate 2 refine yF ?_
 refine wD [.r 10 0 0] [] [] false ((Rs.As_good Γ hE [k] e (num 0)).plain1 (yEd e k)) ?_ (hv := by (simp (maxSteps := 2000000) [-List.map_map, -List.map_drop, -List.map_take, VwL_cons, xN, xY, vU, xV, xW, xU, Vw_agg, xS, xX, xC, VwL_refl_map, xA, xL, xM, wK, xK, yZ, xE, yY, VwTs_app, List.take_of_length_le, srcL, notIn, ObsVw, SrcOk, pOk, Go.Ot.look, resP, resN, ev, evc, mkS, push_cast, vD, ObsAt, PoiOk]))
 refine yE (yB (yC (xD (yD (yA rfl ?_)))))
 iterate 6 refine yW ?_
 refine yV [] false (lD Γ ⟨k, e, 0, []⟩ (by simp [tsz]) (by simp)) ?_ (hv := by (simp (maxSteps := 2000000) (disch := first | omega | (simp only [List.length_drop, List.length_take, List.length_map, List.length_append, List.length_cons, List.length_nil, List.length_replicate, List.length_set] <;> omega) | fail) [-List.map_map, -List.map_drop, -List.map_take, VwL_cons, xN, xY, vU, xV, xW, xU, Vw_agg, xS, xX, xC, VwL_refl_map, xA, xL, xM, wK, xK, yZ, xE, yY, VwTs_app, List.take_of_length_le, srcL, notIn, ObsVw, SrcOk, pOk, Go.Ot.look, resP, resN, ev, evc, mkS, push_cast, List.take_of_length_le, pA] <;> (try omega)))
 iterate 2 refine yW ?_
 refine yE (xP (by kernel_rfl) (yC (yP (yG ?_))))
 refine ⟨.inr rfl, yQ [] (by rw [results14]) ?_ ?_ ?_⟩ <;> simp [mbT, qA, pA, wI]
end Go.Proofs.Tryz
