/- Contracts of this program's functions. -/
import Derived.Test.YtkbikblijipceaaGreatDoorSRP1
import Derived.Test.YtkbikblijipceaaGreatDoorSRC4
set_option maxHeartbeats 4000000
set_option maxRecDepth 100000
set_option linter.unusedVariables false
set_option linter.unusedSimpArgs false
namespace Go.Proofs.Tryz
open Go Go.Ot
def oL (r : Rl) (cs : List Rc) : List Int := fq (oQ 0 r.boxes.length) (gQ (inF cs cs.length) 8)
theorem yEg {cs : List Rc} (hck : ckB cs = true) : ∀ i, i < cs.length → (inF cs (i + 1)).contains 0 = true
 | 0, h => by
  have := (kD ((uJ hck).2 0 h)).2.2
  have h1 : (cs.getD 0 default).kind = 1 := Classical.byContradiction fun e => this (.inl ⟨rfl, .inl e⟩)
  have h2 : (cs.getD 0 default).dev = 0 := Classical.byContradiction fun e => this (.inl ⟨rfl, .inr e⟩)
  rw [pI h1, h2]; rfl
 | i + 1, h => by
  have ih := yEg hck i (by omega)
  have hn := (kD ((uJ hck).2 (i + 1) h)).2.2
  have hp := (kD ((uJ hck).2 (i + 1) h)).1
  rw [List.contains_iff_mem] at ih ⊢
  by_cases h1 : (cs.getD (i + 1) default).kind = 1
  ·rw [pI h1]; exact List.mem_append_left _ ih
  ·have h2 : (cs.getD (i + 1) default).kind = 2 := hp.2.2.2.1.resolve_left h1
   rw [hC h1]
   exact List.mem_filter.2 ⟨ih, decide_eq_true (fun e => hn (.inr (.inl ⟨h2, e.symm⟩)))⟩
theorem aG {l : List Int} (h : l.contains 0 = true) : ∀ d, (gQ l (d + 1)).getD 0 0 = 0 ∧ 0 < (gQ l (d + 1)).length
 | 0 => by rw [yBC (d := 0) h]; exact ⟨rfl, Nat.zero_lt_one⟩
 | d + 1 => by
  obtain ⟨h1, h2⟩ := aG h d
  rcases hc : l.contains ((d + 1 : Nat) : Int) with _ | _
  ·rw [yDW hc]; exact ⟨h1, h2⟩
  ·rw [yBC hc]
   exact ⟨by rw [List.getD_eq_getElem?_getD, List.getElem?_append_left h2, ← List.getD_eq_getElem?_getD]; exact h1, by rw [List.length_append]; omega⟩
theorem yIG (m : Int) : oQ 0 m 0 = true := by rw [oQ, decide_eq_true (rfl : (0 : Int) = 0)]; rfl
attribute [local irreducible] wpK wpS uE wH wV wN wZ xD Le rdS lpW rdW got tB mayW uW putW nb u64 qB mwB sha rcF hdF hsh RG inF chC fl lkT ckB chP chS mA gQ fq oQ
theorem yBz (Γ : Gl) (hE : EG Γ) (r : Rl) (hr : rlS r) (cs : List Rc) (hcs : r.log = cs.map rcF) (hck : ckB cs = true) (h0 : 0 < cs.length) : Go.Ot.Good Γ prog 126 [.agg [.t (.sl r.boxes.length (r.boxes.flatMap mbT)), .t (lst txt r.log), .t (txt r.snap), .t (num r.shares), .t (lst num r.last)], .t (num 0)] [] (.msl (.n 0) 0 (oL r cs).length 1) [] [xZ 3 num (oL r cs)] := by
 obtain ⟨hb, hm, hg, hn⟩ := hr
 have h40 := (uJ hck).1
 have ho : chS r.log = some cs := by rw [hcs]; exact yHC (fun x hx => lO hck hx)
 have hs : ∀ i, (r.log.getD i []).length ≤ 1000000 := fun i => by rw [hcs]; exact yHq i
 obtain ⟨n1, hn1⟩ : ∃ n1, cs.length = n1 + 1 := ⟨cs.length - 1, by omega⟩
 have hz := yEg hck n1 (by omega)
 rw [← hn1] at hz
 obtain ⟨hm0, hml⟩ := aG hz 7
 have hm8 := kU (inF cs cs.length) 8
 refine yR F.mix func126 (by rfl) ntmps126 ?_
 refine yD (yA rfl ?_)
 iterate 3 refine yF ?_
 refine yE (yB (yC (yD (yA rfl ?_))))
 iterate 2 refine yF ?_
 refine yU [] true ((by have h := tM Γ hE r.log hg hs; rw [ho, nE, hck] at h; exact h)) ?_ (hv := by (simp (maxSteps := 2000000) (disch := first | omega | (simp only [zL] <;> omega) | fail) [-List.map_map, -List.map_drop, -List.map_take, VwL_cons, xM, xY, vN, xV, xW, xU, Vw_agg, xS, xX, xA, VwL_refl_map, yX, xK, xL, wK, xJ, yW, xC, yV, VwTs_app, List.take_of_length_le, srcL, notIn, ObsVw, SrcOk, pOk, Go.Ot.look, resP, resN, ev, evc, mkS, push_cast, List.take_of_length_le] <;> (try omega)))
 iterate 5 refine yF ?_
 refine yE (yB (yC (yD (yA rfl ?_))))
 iterate 3 refine yF ?_
 refine yU [] false (yGa Γ cs hck) ?_
 refine yF ?_
 refine wG [.r 2 3 0] [.r 0 1 0, .r 0 0 0] [.r 2 3 0] false (yEI Γ [num 0] [.sl r.boxes.length (r.boxes.flatMap mbT), lst txt r.log, txt r.snap, num r.shares, lst num r.last] (oQ 0 r.boxes.length) (fun n => yIF Γ 0 r n) (gQ (inF cs cs.length) 8) 0 (by omega) hml (by rw [hm0]; exact yIG _) (fun j hj => absurd hj (Nat.not_lt_zero _))) ?_
 refine yF ?_
 refine yE (yB (yC (yO ?_)))
 refine ⟨.inr rfl, yP [(.n 0, .r 2 3 0)] (by rw [results126]) ?_ ?_ ?_⟩ <;> simp [-List.map_set, -List.map_replicate, -List.reduceReplicate, -List.map_map, -List.map_drop, -List.map_take, num, bol, txt, w8, w16, w32, w64, lst, cls, xZ, xR, List.take_of_length_le, Wr.cellsL_len, wA, Wr.k_mk, Wr.n_mk, Wr.s_mk, Wr.l_mk, Wr.cellsL, Wr.z_eq, mbT, oL]
theorem yIJ (Γ : Gl) (m : Mb) (s : List UInt8) (hl : m.l.length < 60) : Go.Ot.Good Γ prog 127 [.agg [.t (num m.first), .t (lst txt m.l)], .t (txt s)] [] (.tup [.agg [.t (num m.first), .t (lst txt (m.l ++ [s]))], .t (num 0)]) [] [] := by
 refine yR F.mix func127 (by rfl) ntmps127 ?_
 refine yD (yA rfl ?_)
 iterate 3 refine yF ?_
 refine yE (yB (yC (yD (yA rfl ?_))))
 iterate 2 refine yF ?_
 refine yU [] false (vT Γ m.l (by omega)) ?_ (hv := by (simp (maxSteps := 2000000) (disch := first | omega | (simp only [zL] <;> omega) | fail) [-List.map_map, -List.map_drop, -List.map_take, VwL_cons, xM, xY, vN, xV, xW, xU, Vw_agg, xS, xX, xA, VwL_refl_map, yX, xK, xL, wK, xJ, yW, xC, yV, VwTs_app, List.take_of_length_le, srcL, notIn, ObsVw, SrcOk, pOk, Go.Ot.look, resP, resN, ev, evc, mkS, push_cast, List.take_of_length_le] <;> (try omega)))
 iterate 2 refine yF ?_
 refine yE (yB (yC (yD (yD (yA rfl ?_)))))
 iterate 4 refine yF ?_
 refine yE (yB (yC (yJ (yL (yC (yD (yA rfl ?_)))))))
 iterate 7 refine yF ?_
 refine yE (yB (yC (yD (yA rfl ?_))))
 iterate 3 refine yF ?_
 refine yE (yB (yC (yO ?_)))
 refine ⟨.inr rfl, yP [] (by rw [results127]) ?_ ?_ ?_⟩ <;> simp [-List.map_set, -List.map_replicate, -List.reduceReplicate, -List.map_map, -List.map_drop, -List.map_take, num, bol, txt, w8, w16, w32, w64, lst, cls, xZ, xR, List.take_of_length_le, Wr.cellsL_len, wA, Wr.k_mk, Wr.n_mk, Wr.s_mk, Wr.l_mk, Wr.cellsL, Wr.z_eq, mbT, List.map_append]
end Go.Proofs.Tryz

namespace Go.Proofs.Tryz
open Go Go.Ot
theorem yBA {r : Rl} {cs : List Rc} {i : Nat} (h : i < (oL r cs).length) : ∃ j : Nat, (oL r cs).getD i 0 = (j : Int) ∧ j < r.boxes.length ∧ 0 < j := by
 have hm : (oL r cs).getD i 0 ∈ oL r cs := by
  rw [show (oL r cs).getD i 0 = (oL r cs)[i] by simp [List.getD_eq_getElem?_getD, List.getElem?_eq_getElem h]]; exact List.getElem_mem h
 generalize (oL r cs).getD i 0 = v at hm ⊢
 rw [oL, fq] at hm
 obtain ⟨h1, h2⟩ := List.mem_filter.1 hm
 obtain ⟨j, hj, _, _⟩ := memL_mem.1 h1
 rw [hj] at h2 ⊢
 have h3 : oQ 0 r.boxes.length (j : Int) = false := by simpa using h2
 rw [oQ, Bool.or_eq_false_iff, decide_eq_false_iff_not, decide_eq_false_iff_not] at h3
 exact ⟨j, rfl, by omega, by omega⟩
theorem yHt (r : Rl) (cs : List Rc) : (oL r cs).length ≤ 8 := Nat.le_trans (List.length_filter_le _ _) (kU _ 8)
theorem yJC (m : Mb) (n : Int) : m.first ≤ (kG m n).first ∧ (kG m n).first ≤ m.first + m.l.length := jS m (min n (m.first + m.l.length) + 1)
theorem yB7 (m : Mb) (n : Int) : (kG m n).l.length ≤ m.l.length := by show (m.l.drop _).length ≤ _; rw [List.length_drop]; omega
def puF (bx : List Mb) (b : List UInt8) (l : List Int) : Nat → List Mb
 | 0 => bx
 | i + 1 => (puF bx b l i).set (l.getD i 0).toNat ⟨((puF bx b l i).getD (l.getD i 0).toNat default).first, ((puF bx b l i).getD (l.getD i 0).toNat default).l ++ [b]⟩
theorem puF_0 (bx : List Mb) (b : List UInt8) (l : List Int) : puF bx b l 0 = bx := rfl
@[push_cast] theorem yAK (bx : List Mb) (b : List UInt8) (l : List Int) : ∀ i, (puF bx b l i).length = bx.length
 | 0 => rfl
 | i + 1 => by rw [puF, List.length_set, yAK bx b l i]
theorem puF_s {bx : List Mb} {b : List UInt8} {l : List Int} {i j : Nat} {m : Mb} (hj : l.getD i 0 = (j : Int)) (hm : (puF bx b l i).getD j default = m) : puF bx b l (i + 1) = (puF bx b l i).set j ⟨m.first, m.l ++ [b]⟩ := by
 rw [puF, hj, Int.toNat_natCast, hm]
attribute [local irreducible] wpK wpS uE wH wV wN wZ xD Le oL puF oQ fq fA kG yC5
theorem yAA (Γ : Gl) (r : Rl) (hr : rlS r) (dd : Nat) (hdd : dd < r.boxes.length) (n : Int) (hn : 0 ≤ n ∧ n ≤ 4503599627370496) (b : List UInt8) (m : Mb) (hme : r.boxes.getD dd default = m) (hmf : 0 ≤ m.first ∧ m.first ≤ 4503599627370496) : Go.Ot.Good Γ prog 93 [.ptr (.p 0) 0, .agg [.t (num 2), .t (num (dd : Int)), .t (num n), .t (txt b)], .ptr (.p 1) 0] [xR 31 [.msl (.p 2) 0 r.boxes.length 2, .msl (.p 3) 0 r.log.length 1, .t (txt r.snap), .t (num r.shares), .msl (.p 4) 0 r.last.length 1], xR 44 [.t (num 2), .t (num 0), .t (num 0), .t (.v (.slice none 0 0))], wE r.boxes, xZ 9 txt r.log, xZ 3 num r.last] (.t (.v .nilIface)) [some (xR 31 [.msl (.p 2) 0 (r.boxes.set dd (kG m n)).length 2, .msl (.p 3) 0 r.log.length 1, .t (txt r.snap), .t (num r.shares), .msl (.p 4) 0 r.last.length 1]), some (xR 44 [.t (num 2), .t (num 0), .t (num (fA (kG m n) (n + 1))), .t (lst txt (yC5 (kG m n) (n + 1)))]), some (wE (r.boxes.set dd (kG m n))), some (xZ 9 txt r.log), some (xZ 3 num r.last)] [] := by
 obtain ⟨hb, hm, hg, hla⟩ := hr
 have hml : m.l.length ≤ 1000000 := by rw [← hme]; exact hm dd
 have hpi := jS m (min n (m.first + m.l.length) + 1)
 obtain ⟨A, hA⟩ : ∃ A, kG m n = A := ⟨_, rfl⟩
 have hAf : m.first ≤ A.first ∧ A.first ≤ m.first + m.l.length := by rw [← hA]; exact yJC m n
 have hAl : A.l.length ≤ 1000000 := by rw [← hA]; have := yB7 m n; omega
 have hset := yAO A.first A.l hdd
 simp only [num, lst] at hset
 refine yR F.mix func93 (by rfl) ntmps93 ?_
 refine yD (yA rfl ?_)
 iterate 2 refine yF ?_
 refine yE (yB (yC (yD (yA rfl ?_))))
 iterate 8 refine yY ?_
 simp only [hme]
 iterate 2 refine yY ?_
 refine yZ [] true ((by have h := yB6 Γ m (by omega) hml n (by omega); rw [hA] at h; exact h)) ?_ (hv := by (simp (maxSteps := 2000000) (disch := first | omega | (simp only [zL] <;> omega) | fail) [-List.map_map, -List.map_drop, -List.map_take, VwL_cons, xM, xY, vN, xV, xW, xU, Vw_agg, xS, xX, xA, VwL_refl_map, yX, xK, xL, wK, xJ, yW, xC, yV, VwTs_app, List.take_of_length_le, srcL, notIn, ObsVw, SrcOk, pOk, Go.Ot.look, resP, resN, ev, evc, mkS, push_cast, List.take_of_length_le] <;> (try omega)))
 iterate 2 refine yY ?_
 refine yE (xO (by kernel_rfl) (yC (yD (yA rfl ?_))))
 iterate 9 refine yY ?_
 refine yE (xO (by kernel_rfl) (yC (yD (yA rfl ?_))))
 iterate 6 refine yF ?_
 refine yU [] true (yCK Γ A (by omega) hAl (n + 1) (by omega)) ?_ (hv := by (simp (maxSteps := 2000000) (disch := first | omega | (simp only [zL] <;> omega) | fail) [-List.map_map, -List.map_drop, -List.map_take, VwL_cons, xM, xY, vN, xV, xW, xU, Vw_agg, xS, xX, xA, VwL_refl_map, yX, xK, xL, wK, xJ, yW, xC, yV, VwTs_app, List.take_of_length_le, srcL, notIn, ObsVw, SrcOk, pOk, Go.Ot.look, resP, resN, ev, evc, mkS, push_cast, List.take_of_length_le] <;> (try omega)))
 iterate 9 refine yF ?_
 refine yE (yB (yC (yD (yA rfl ?_))))
 refine yF ?_
 refine yE (yB (yC (yO ?_)))
 refine ⟨.inr rfl, yP [(.p 0, .p 0), (.p 1, .p 1), (.p 2, .p 2), (.p 3, .p 3), (.p 4, .p 4)] (by rw [results93]) ?_ ?_ ?_⟩ <;> simp [-List.map_set, -List.map_replicate, -List.reduceReplicate, -List.map_map, -List.map_drop, -List.map_take, num, bol, txt, w8, w16, w32, w64, lst, cls, xZ, xR, List.take_of_length_le, Wr.cellsL_len, wA, Wr.k_mk, Wr.n_mk, Wr.s_mk, Wr.l_mk, Wr.cellsL, Wr.z_eq, mbT, wE, hA, hset]
theorem yIx (Γ : Gl) (r : Rl) (hr : rlS r) (n : Int) (hn : 0 ≤ n ∧ n ≤ 4503599627370496) (b : List UInt8) (x : Int) (hx : r.last.getD 0 0 = x) (hl0 : 0 < r.last.length) (hnx : n ≤ x) : Go.Ot.Good Γ prog 92 [.ptr (.p 0) 0, .agg [.t (num 1), .t (num 0), .t (num n), .t (txt b)], .ptr (.p 1) 0] [xR 31 [.msl (.p 2) 0 r.boxes.length 2, .msl (.p 3) 0 r.log.length 1, .t (txt r.snap), .t (num r.shares), .msl (.p 4) 0 r.last.length 1], xR 44 [.t (num 1), .t (num 0), .t (num 0), .t (.v (.slice none 0 0))], wE r.boxes, xZ 9 txt r.log, xZ 3 num r.last] (.t (.v .nilIface)) [some (xR 31 [.msl (.p 2) 0 r.boxes.length 2, .msl (.p 3) 0 r.log.length 1, .t (txt r.snap), .t (num r.shares), .msl (.p 4) 0 r.last.length 1]), some (xR 44 [.t (num 1), .t (num 0), .t (num x), .t (lst txt [])]), some (wE r.boxes), some (xZ 9 txt r.log), some (xZ 3 num r.last)] [] := by
 obtain ⟨hb, hm, hg, hla⟩ := hr
 refine yR F.mix func92 (by rfl) ntmps92 ?_
 refine yD (yA rfl ?_)
 iterate 2 refine yF ?_
 refine yE (yB (yC (yD (yD (yA rfl ?_)))))
 iterate 9 refine yY ?_
 simp only [hx]
 iterate 3 refine yY ?_
 refine yE (xO (by kernel_rfl) (yC (yD (yA rfl ?_))))
 iterate 7 refine yY ?_
 refine yE (xO (by kernel_rfl) (yC (xF (yD (yA rfl ?_)))))
 refine yF ?_
 refine yE (yB (yC (yO (yG ?_))))
 refine ⟨.inr rfl, yP [(.p 0, .p 0), (.p 1, .p 1), (.p 2, .p 2), (.p 3, .p 3), (.p 4, .p 4)] (by rw [results92]) ?_ ?_ ?_⟩ <;> simp [-List.map_set, -List.map_replicate, -List.reduceReplicate, -List.map_map, -List.map_drop, -List.map_take, num, bol, txt, w8, w16, w32, w64, lst, cls, xZ, xR, List.take_of_length_le, Wr.cellsL_len, wA, Wr.k_mk, Wr.n_mk, Wr.s_mk, Wr.l_mk, Wr.cellsL, Wr.z_eq, mbT, wE]
theorem yFW (Γ : Gl) (hE : EG Γ) (r : Rl) (hr : rlS r) (n : Int) (hn : 0 ≤ n ∧ n ≤ 4503599627370496) (b : List UInt8) (x : Int) (hx : r.last.getD 0 0 = x) (hl0 : 0 < r.last.length) (hnx : x < n) (cs : List Rc) (hcs : r.log = cs.map rcF) (hck : ckB cs = true) (h0 : 0 < cs.length) (k : Nat) (hk : k < (oL r cs).length) (hf : 60 ≤ (r.boxes.getD ((oL r cs).getD k 0).toNat default).l.length) (hroom : ∀ i, i < k → (r.boxes.getD ((oL r cs).getD i 0).toNat default).l.length < 60) : Go.Ot.Good Γ prog 92 [.ptr (.p 0) 0, .agg [.t (num 1), .t (num 0), .t (num n), .t (txt b)], .ptr (.p 1) 0] [xR 31 [.msl (.p 2) 0 r.boxes.length 2, .msl (.p 3) 0 r.log.length 1, .t (txt r.snap), .t (num r.shares), .msl (.p 4) 0 r.last.length 1], xR 44 [.t (num 1), .t (num 0), .t (num 0), .t (.v (.slice none 0 0))], wE r.boxes, xZ 9 txt r.log, xZ 3 num r.last] (.t (.ifc 88 (.agg [num 12]))) [some (xR 31 [.msl (.p 2) 0 r.boxes.length 2, .msl (.p 3) 0 r.log.length 1, .t (txt r.snap), .t (num r.shares), .msl (.p 4) 0 r.last.length 1]), some (xR 44 [.t (num 1), .t (num 0), .t (num x), .t (lst txt [])]), some (wE r.boxes), some (xZ 9 txt r.log), some (xZ 3 num r.last)] [] := by
 have hr2 := hr
 obtain ⟨hb, hm, hg, hla⟩ := hr2
 have hal := lY (l := r.boxes) rfl
 have hol := yHt r cs
 refine yR F.mix func92 (by rfl) ntmps92 ?_
 refine yD (yA rfl ?_)
 iterate 2 refine yF ?_
 refine yE (yB (yC (yD (yD (yA rfl ?_)))))
 iterate 9 refine yY ?_
 simp only [hx]
 iterate 3 refine yY ?_
 refine yE (xO (by kernel_rfl) (yC (yD (yA rfl ?_))))
 iterate 7 refine yY ?_
 refine yE (xO (by kernel_rfl) (yC (yJ (yL (yC (yD (yA rfl ?_)))))))
 iterate 5 refine yY ?_
 refine yZ [.p 2, .p 3, .p 4] false (yBz Γ hE r hr cs hcs hck h0) ?_ (hv := by (simp (maxSteps := 2000000) (disch := first | omega | (simp only [zL] <;> omega) | fail) [-List.map_map, -List.map_drop, -List.map_take, VwL_cons, xM, xY, vN, xV, xW, xU, Vw_agg, xS, xX, xA, VwL_refl_map, yX, xK, xL, wK, xJ, yW, xC, yV, VwTs_app, List.take_of_length_le, srcL, notIn, ObsVw, SrcOk, pOk, Go.Ot.look, resP, resN, ev, evc, mkS, push_cast, List.take_of_length_le, hal, qP, -List.length_flatMap] <;> (try omega)))
 refine yY ?_
 refine yE (xO (by kernel_rfl) (yC (yD (yD (yA rfl ?_)))))
 iterate 3 refine yF ?_
 refine yE (yB (yC (yH ?_)))
 refine xN (fun sl L (i : Nat) => ⟨setAll (setBad sl [1, 6, 9, 12, 13, 14, 15, 16, 17, 18, 19, 20, 21, 22, 23, 24, 25, 26, 27, 28, 29, 30, 31, 32, 33, 34, 35, 39, 40, 41, 42, 43, 44, 45, 46, 47, 48, 49, 50, 51, 52, 53, 54]) [(38, .t (num i))], Go.Ot.look (L)⟩) (fun i => i ≤ k) (fun i => k - i) (0) (wF ?_) ?_ ?_
 ·refine yT ?_ ?_ ?_ <;> simp [-List.map_set, -List.map_replicate, -List.reduceReplicate, -List.map_map, -List.map_drop, -List.map_take, num, bol, txt, w8, w16, w32, w64, lst, cls, xZ, xR, List.take_of_length_le, Wr.cellsL_len, wA, Wr.k_mk, Wr.n_mk, Wr.s_mk, Wr.l_mk, Wr.cellsL, Wr.z_eq, mbT, wE]
 ·(first | omega | simp)
 ·intro i hi
  refine vE ?_
  refine yD (yA rfl ?_)
  refine yF ?_
  refine yE (yB (yC (yD (xF (yL (yC (yD (yH (yD (yA rfl ?_))))))))))
  rcases (show i = k ∨ i < k by omega) with rfl | hik
  ·skip
   iterate 2 refine yF ?_
   have hil : i < (oL r cs).length := by omega
   obtain ⟨j, hj, hjb, hj0⟩ := yBA hil
   simp only [hj]
   obtain ⟨m, hme⟩ : ∃ m, r.boxes.getD j default = m := ⟨_, rfl⟩
   rw [hj, Int.toNat_natCast, hme] at hf
   refine yF ?_
   refine yE (yB (yC (yD (yA rfl ?_))))
   iterate 8 refine yF ?_
   simp only [hme]
   iterate 2 refine yF ?_
   refine yE (yB (yC (xF (yD (yA rfl ?_)))))
   iterate 3 refine yF ?_
   refine yE (yB (yC (yO (yI (yG (wI (yI (yG ?_))))))))
   refine ⟨.inr rfl, yP [(.p 0, .p 0), (.p 1, .p 1), (.p 2, .p 2), (.p 3, .p 3), (.p 4, .p 4)] (by rw [results92]) ?_ ?_ ?_⟩ <;> simp [-List.map_set, -List.map_replicate, -List.reduceReplicate, -List.map_map, -List.map_drop, -List.map_take, num, bol, txt, w8, w16, w32, w64, lst, cls, xZ, xR, List.take_of_length_le, Wr.cellsL_len, wA, Wr.k_mk, Wr.n_mk, Wr.s_mk, Wr.l_mk, Wr.cellsL, Wr.z_eq, mbT, wE]
  ·skip
   iterate 2 refine yF ?_
   have hil : i < (oL r cs).length := by omega
   obtain ⟨j, hj, hjb, hj0⟩ := yBA hil
   simp only [hj]
   obtain ⟨m, hme⟩ : ∃ m, r.boxes.getD j default = m := ⟨_, rfl⟩
   have hrm := hroom i hik
   rw [hj, Int.toNat_natCast, hme] at hrm
   refine yF ?_
   refine yE (yB (yC (yD (yA rfl ?_))))
   iterate 8 refine yF ?_
   simp only [hme]
   iterate 2 refine yF ?_
   refine yE (yB (yC (yJ (yL (yS (yC (yA rfl ?_)))))))
   iterate 2 refine yF ?_
   refine yE (yB ?_)
   refine xE (i + 1) (wF ?_) ?_ ?_
   ·refine yT ?_ ?_ ?_ <;> simp [-List.map_set, -List.map_replicate, -List.reduceReplicate, -List.map_map, -List.map_drop, -List.map_take, num, bol, txt, w8, w16, w32, w64, lst, cls, xZ, xR, List.take_of_length_le, Wr.cellsL_len, wA, Wr.k_mk, Wr.n_mk, Wr.s_mk, Wr.l_mk, Wr.cellsL, Wr.z_eq, mbT, wE]
   ·(first | omega | (simp_all <;> omega))
   ·omega
theorem put_ok (Γ : Gl) (hE : EG Γ) (r : Rl) (hr : rlS r) (n : Int) (hn : 0 ≤ n ∧ n ≤ 4503599627370496) (b : List UInt8) (x : Int) (hx : r.last.getD 0 0 = x) (hl0 : 0 < r.last.length) (hnx : x < n) (cs : List Rc) (hcs : r.log = cs.map rcF) (hck : ckB cs = true) (h0 : 0 < cs.length) (hroom : ∀ i, i < (oL r cs).length → (r.boxes.getD ((oL r cs).getD i 0).toNat default).l.length < 60) (hroom2 : ∀ i, i < (oL r cs).length → ((puF r.boxes b (oL r cs) i).getD ((oL r cs).getD i 0).toNat default).l.length < 60) : Go.Ot.Good Γ prog 92 [.ptr (.p 0) 0, .agg [.t (num 1), .t (num 0), .t (num n), .t (txt b)], .ptr (.p 1) 0] [xR 31 [.msl (.p 2) 0 r.boxes.length 2, .msl (.p 3) 0 r.log.length 1, .t (txt r.snap), .t (num r.shares), .msl (.p 4) 0 r.last.length 1], xR 44 [.t (num 1), .t (num 0), .t (num 0), .t (.v (.slice none 0 0))], wE r.boxes, xZ 9 txt r.log, xZ 3 num r.last] (.t (.v .nilIface)) [some (xR 31 [.msl (.p 2) 0 (puF r.boxes b (oL r cs) (oL r cs).length).length 2, .msl (.p 3) 0 r.log.length 1, .t (txt r.snap), .t (num r.shares), .msl (.p 4) 0 (r.last.set 0 n).length 1]), some (xR 44 [.t (num 1), .t (num 0), .t (num n), .t (lst txt [])]), some (wE (puF r.boxes b (oL r cs) (oL r cs).length)), some (xZ 9 txt r.log), some (xZ 3 num (r.last.set 0 n))] [] := by
 have hr2 := hr
 obtain ⟨hb, hm, hg, hla⟩ := hr2
 have hal := lY (l := r.boxes) rfl
 have hol := yHt r cs
 have hset2 : ((r.last.map num).map D.t).set 0 (.t (num n)) = ((r.last.set 0 n).map num).map D.t := by simp
 refine yR F.mix func92 (by rfl) ntmps92 ?_
 refine yD (yA rfl ?_)
 iterate 2 refine yF ?_
 refine yE (yB (yC (yD (yD (yA rfl ?_)))))
 iterate 9 refine yY ?_
 simp only [hx]
 iterate 3 refine yY ?_
 refine yE (xO (by kernel_rfl) (yC (yD (yA rfl ?_))))
 iterate 7 refine yY ?_
 refine yE (xO (by kernel_rfl) (yC (yJ (yL (yC (yD (yA rfl ?_)))))))
 iterate 5 refine yY ?_
 refine yZ [.p 2, .p 3, .p 4] false (yBz Γ hE r hr cs hcs hck h0) ?_ (hv := by (simp (maxSteps := 2000000) (disch := first | omega | (simp only [zL] <;> omega) | fail) [-List.map_map, -List.map_drop, -List.map_take, VwL_cons, xM, xY, vN, xV, xW, xU, Vw_agg, xS, xX, xA, VwL_refl_map, yX, xK, xL, wK, xJ, yW, xC, yV, VwTs_app, List.take_of_length_le, srcL, notIn, ObsVw, SrcOk, pOk, Go.Ot.look, resP, resN, ev, evc, mkS, push_cast, List.take_of_length_le, hal, qP, -List.length_flatMap] <;> (try omega)))
 refine yY ?_
 refine yE (xO (by kernel_rfl) (yC (yD (yD (yA rfl ?_)))))
 iterate 3 refine yF ?_
 refine yE (yB (yC (yH ?_)))
 refine xN (fun sl L (i : Nat) => ⟨setAll (setBad sl [1, 6, 9, 12, 13, 14, 15, 16, 17, 18, 19, 20, 21, 22, 23, 24, 25, 26, 27, 28, 29, 30, 31, 32, 33, 34, 35, 39, 40, 41, 42, 43, 44, 45, 46, 47, 48, 49, 50, 51, 52, 53, 54]) [(38, .t (num i))], Go.Ot.look (L)⟩) (fun i => i ≤ (oL r cs).length) (fun i => (oL r cs).length - i) (0) (wF ?_) ?_ ?_
 ·refine yT ?_ ?_ ?_ <;> simp [-List.map_set, -List.map_replicate, -List.reduceReplicate, -List.map_map, -List.map_drop, -List.map_take, num, bol, txt, w8, w16, w32, w64, lst, cls, xZ, xR, List.take_of_length_le, Wr.cellsL_len, wA, Wr.k_mk, Wr.n_mk, Wr.s_mk, Wr.l_mk, Wr.cellsL, Wr.z_eq, mbT, wE]
 ·(first | omega | simp)
 ·intro i hi
  refine vE ?_
  refine yD (yA rfl ?_)
  refine yF ?_
  refine yE (yB (yC (yD ?_)))
  refine vL (fun hc1 => ?_) (fun hc1 => ?_)
  ·(try simp only [zB] at hc1)
   refine yL (yC (yD (yH (yD (yA rfl ?_)))))
   iterate 2 refine yF ?_
   have hil : i < (oL r cs).length := by omega
   obtain ⟨j, hj, hjb, hj0⟩ := yBA hil
   simp only [hj]
   obtain ⟨m, hme⟩ : ∃ m, r.boxes.getD j default = m := ⟨_, rfl⟩
   have hrm := hroom i hil
   rw [hj, Int.toNat_natCast, hme] at hrm
   refine yF ?_
   refine yE (yB (yC (yD (yA rfl ?_))))
   iterate 8 refine yF ?_
   simp only [hme]
   iterate 2 refine yF ?_
   refine yE (yB (yC (yJ (yL (yS (yC (yA rfl ?_)))))))
   iterate 2 refine yF ?_
   refine yE (yB ?_)
   refine xE (i + 1) (wF ?_) ?_ ?_
   ·refine yT ?_ ?_ ?_ <;> simp [-List.map_set, -List.map_replicate, -List.reduceReplicate, -List.map_map, -List.map_drop, -List.map_take, num, bol, txt, w8, w16, w32, w64, lst, cls, xZ, xR, List.take_of_length_le, Wr.cellsL_len, wA, Wr.k_mk, Wr.n_mk, Wr.s_mk, Wr.l_mk, Wr.cellsL, Wr.z_eq, mbT, wE]
   ·(first | omega | (simp_all <;> omega))
   ·(first | omega | (simp only []; omega))
  ·(try simp only [zB] at hc1)
   refine xQ (yM (yN (yK (yC (yD (yD (yA rfl ?_)))))))
   iterate 3 refine yF ?_
   refine yE (yB (yC (yH ?_)))
   refine xN (fun sl L (i : Nat) => ⟨setAll (setBad sl [1, 7, 9, 11, 12, 13, 14, 15, 16, 17, 18, 19, 20, 21, 22, 23, 24, 25, 26, 27, 28, 29, 30, 31, 32, 33, 34, 35, 36, 37, 38, 39, 40, 41, 42, 43, 44, 45, 46, 47, 48, 49, 50, 51, 52, 53, 54, 58, 59, 60, 61, 62, 63, 64, 65, 66, 67, 68, 69, 70, 71, 72, 73, 74, 75, 76, 77, 78, 79, 80]) [(57, .t (num i))], Go.Ot.look (vD (.p 2) (wE (puF r.boxes b (oL r cs) i)) L)⟩) (fun i => i ≤ (oL r cs).length) (fun i => (oL r cs).length - i) (0) (wF ?_) ?_ ?_
   ·refine yT ?_ ?_ ?_ <;> simp [-List.map_set, -List.map_replicate, -List.reduceReplicate, -List.map_map, -List.map_drop, -List.map_take, num, bol, txt, w8, w16, w32, w64, lst, cls, xZ, xR, List.take_of_length_le, Wr.cellsL_len, wA, Wr.k_mk, Wr.n_mk, Wr.s_mk, Wr.l_mk, Wr.cellsL, Wr.z_eq, mbT, wE, puF_0, wE]
   ·(first | omega | simp)
   ·intro i hi
    refine vE ?_
    refine yD (yA rfl ?_)
    refine yF ?_
    refine yE (yB (yC (yD ?_)))
    refine vL (fun hc3 => ?_) (fun hc3 => ?_)
    ·(try simp only [zB] at hc3)
     refine yL (yC (yD (yH (yD (yA rfl ?_)))))
     iterate 2 refine yF ?_
     have hil : i < (oL r cs).length := by omega
     obtain ⟨j, hj, hjb, hj0⟩ := yBA hil
     simp only [hj]
     obtain ⟨m, hme⟩ : ∃ m, (puF r.boxes b (oL r cs) i).getD j default = m := ⟨_, rfl⟩
     have hrm := hroom2 i hil
     rw [hj, Int.toNat_natCast, hme] at hrm
     have hjl : j < (puF r.boxes b (oL r cs) i).length := by rw [yAK]; exact hjb
     have hset := yAO m.first (m.l ++ [b]) hjl
     simp only [num, lst, List.length_append, List.length_singleton, List.map_append, List.map_cons, List.map_nil, txt] at hset
     have hnx2 := puF_s hj hme
     refine yF ?_
     refine yE (yB (yC (yA rfl ?_)))
     iterate 12 refine yY ?_
     simp only [hme]
     iterate 2 refine yY ?_
     refine yZ [] true (yIJ Γ m b hrm) ?_ (hv := by (simp (maxSteps := 2000000) (disch := first | omega | (simp only [zL] <;> omega) | fail) [-List.map_map, -List.map_drop, -List.map_take, VwL_cons, xM, xY, vN, xV, xW, xU, Vw_agg, xS, xX, xA, VwL_refl_map, yX, xK, xL, wK, xJ, yW, xC, yV, VwTs_app, List.take_of_length_le, srcL, notIn, ObsVw, SrcOk, pOk, Go.Ot.look, resP, resN, ev, evc, mkS, push_cast, List.take_of_length_le] <;> (try omega)))
     iterate 5 refine yY ?_
     refine yE (xO (by kernel_rfl) (yS (yC (yA rfl ?_))))
     iterate 2 refine yF ?_
     refine yE (yB ?_)
     refine xE (i + 1) (wF ?_) ?_ ?_
     ·refine yT ?_ ?_ ?_ <;> simp [-List.map_set, -List.map_replicate, -List.reduceReplicate, -List.map_map, -List.map_drop, -List.map_take, num, bol, txt, w8, w16, w32, w64, lst, cls, xZ, xR, List.take_of_length_le, Wr.cellsL_len, wA, Wr.k_mk, Wr.n_mk, Wr.s_mk, Wr.l_mk, Wr.cellsL, Wr.z_eq, mbT, wE, wE, hnx2, hset]
     ·(first | omega | (simp_all <;> omega))
     ·(first | omega | (simp only []; omega))
    ·(try simp only [zB] at hc3)
     refine xQ (yM (yN (yK (yC (yD (yA rfl ?_))))))
     have hil : i = (oL r cs).length := by omega
     subst hil
     iterate 16 refine yY ?_
     refine yE (xO (by kernel_rfl) (yC (yD (yA rfl ?_))))
     refine yF ?_
     refine yE (yB (yC (yO ?_)))
     refine ⟨.inr rfl, yP [(.p 0, .p 0), (.p 1, .p 1), (.p 2, .p 2), (.p 3, .p 3), (.p 4, .p 4)] (by rw [results92]) ?_ ?_ ?_⟩ <;> simp [-List.map_set, -List.map_replicate, -List.reduceReplicate, -List.map_map, -List.map_drop, -List.map_take, num, bol, txt, w8, w16, w32, w64, lst, cls, xZ, xR, List.take_of_length_le, Wr.cellsL_len, wA, Wr.k_mk, Wr.n_mk, Wr.s_mk, Wr.l_mk, Wr.cellsL, Wr.z_eq, mbT, wE, yAK, hset2]
end Go.Proofs.Tryz

namespace Go.Proofs.Tryz
open Go Go.Ot
theorem yBi (Γ : Gl) (hE : EG Γ) (r : Rl) (hr : rlS r) (n : Int) (hn : 0 ≤ n ∧ n ≤ 4503599627370496) (b : List UInt8) (hbl : b.length ≤ 2000) (x : Int) (hx : r.last.getD 0 0 = x) (hl0 : 0 < r.last.length) (hb0 : 0 < r.boxes.length) (hnx : x < n) (cs : List Rc) (hcs : r.log = cs.map rcF) (hck : ckB cs = true) (h0 : 0 < cs.length)
  (hroom : ∀ i, i < (oL r cs).length → (r.boxes.getD ((oL r cs).getD i 0).toNat default).l.length < 60) (hroom2 : ∀ i, i < (oL r cs).length → ((puF r.boxes b (oL r cs) i).getD ((oL r cs).getD i 0).toNat default).l.length < 60) (r' : Rl) (hr' : r' = ⟨puF r.boxes b (oL r cs) (oL r cs).length, r.log, r.snap, r.shares, r.last.set 0 n⟩) :
  Go.Ot.Good Γ prog 14 [.agg [.t (.sl r.boxes.length (r.boxes.flatMap mbT)), .t (lst txt r.log), .t (txt r.snap), .t (num r.shares), .t (lst num r.last)], .t (txt (Rq.p ⟨1, 0, n, b⟩))] [] (.tup [.agg [.t (.sl r'.boxes.length (r'.boxes.flatMap mbT)), .t (lst txt r'.log), .t (txt r'.snap), .t (num r'.shares), .t (lst num r'.last)], .t (txt (Rp.p ⟨1, 0, n, []⟩))]) [] [] := by
 have hG := put_ok Γ hE r hr n hn b x hx hl0 hnx cs hcs hck h0 hroom hroom2
 have e : r' = ⟨puF r.boxes b (oL r cs) (oL r cs).length, r.log, r.snap, r.shares, r.last.set 0 n⟩ := hr'
 refine step_ok Γ hE r r' hr 1 0 n n (by omega) (by omega) (by omega) b (by omega) [] (by simp [tsz]) (by simp) (yHx Γ r r' 0 n n (by omega) hn b [] ?_)
 rw [e]; exact hG
theorem yDd (Γ : Gl) (hE : EG Γ) (r : Rl) (hr : rlS r) (n : Int) (hn : 0 ≤ n ∧ n ≤ 4503599627370496) (b : List UInt8) (hbl : b.length ≤ 2000) (x : Int) (hx : r.last.getD 0 0 = x) (hl0 : 0 < r.last.length) (hb0 : 0 < r.boxes.length) (hnx : x < n) (cs : List Rc) (hcs : r.log = cs.map rcF) (hck : ckB cs = true) (h0 : 0 < cs.length)
  (k : Nat) (hk : k < (oL r cs).length) (hf : 60 ≤ (r.boxes.getD ((oL r cs).getD k 0).toNat default).l.length) (hroom : ∀ i, i < k → (r.boxes.getD ((oL r cs).getD i 0).toNat default).l.length < 60) :
  Go.Ot.Good Γ prog 14 [.agg [.t (.sl r.boxes.length (r.boxes.flatMap mbT)), .t (lst txt r.log), .t (txt r.snap), .t (num r.shares), .t (lst num r.last)], .t (txt (Rq.p ⟨1, 0, n, b⟩))] [] (.tup [.agg [.t (.sl r.boxes.length (r.boxes.flatMap mbT)), .t (lst txt r.log), .t (txt r.snap), .t (num r.shares), .t (lst num r.last)], .t (txt (Rp.p ⟨1, 12, 0, []⟩))]) [] [] :=
 yFA Γ 12 hE r r hr 1 0 n x (by omega) (by omega) (by omega) b (by omega) [] (by simp [tsz]) (by simp) (yJb Γ r r 0 n x (by omega) hn b [] (yFW Γ hE r hr n hn b x hx hl0 hnx cs hcs hck h0 k hk hf hroom))
theorem step_old (Γ : Gl) (hE : EG Γ) (r : Rl) (hr : rlS r) (n : Int) (hn : 0 ≤ n ∧ n ≤ 4503599627370496) (b : List UInt8) (hbl : b.length ≤ 2000) (x : Int) (hx : r.last.getD 0 0 = x) (hl0 : 0 < r.last.length) (hb0 : 0 < r.boxes.length) (hnx : n ≤ x) :
  Go.Ot.Good Γ prog 14 [.agg [.t (.sl r.boxes.length (r.boxes.flatMap mbT)), .t (lst txt r.log), .t (txt r.snap), .t (num r.shares), .t (lst num r.last)], .t (txt (Rq.p ⟨1, 0, n, b⟩))] [] (.tup [.agg [.t (.sl r.boxes.length (r.boxes.flatMap mbT)), .t (lst txt r.log), .t (txt r.snap), .t (num r.shares), .t (lst num r.last)], .t (txt (Rp.p ⟨1, 0, x, []⟩))]) [] [] :=
 step_ok Γ hE r r hr 1 0 n x (by omega) (by omega) (by omega) b (by omega) [] (by simp [tsz]) (by simp) (yHx Γ r r 0 n x (by omega) hn b [] (yIx Γ r hr n hn b x hx hl0 hnx))
theorem fJ (Γ : Gl) (hE : EG Γ) (r : Rl) (hr : rlS r) (dd : Nat) (hdd : dd < r.boxes.length) (n : Int) (hn : 0 ≤ n ∧ n ≤ 4503599627370496) (m : Mb) (hme : r.boxes.getD dd default = m) (hmf : 0 ≤ m.first ∧ m.first ≤ 4503599627370496) (hsz : ∀ s ∈ m.l, s.length ≤ 10000) (r' : Rl) (hr' : r' = ⟨r.boxes.set dd (kG m n), r.log, r.snap, r.shares, r.last⟩) :
  Go.Ot.Good Γ prog 14 [.agg [.t (.sl r.boxes.length (r.boxes.flatMap mbT)), .t (lst txt r.log), .t (txt r.snap), .t (num r.shares), .t (lst num r.last)], .t (txt (Rq.p ⟨2, (dd : Int), n, []⟩))] [] (.tup [.agg [.t (.sl r'.boxes.length (r'.boxes.flatMap mbT)), .t (lst txt r'.log), .t (txt r'.snap), .t (num r'.shares), .t (lst num r'.last)], .t (txt (Rp.p ⟨2, 0, fA (kG m n) (n + 1), yC5 (kG m n) (n + 1)⟩))]) [] [] := by
 have hG := yAA Γ r hr dd hdd n hn [] m hme hmf
 have hb := hr.b
 have hfl : (yC5 (kG m n) (n + 1)).length ≤ 8 := by rw [yC5, List.length_take]; omega
 have ht := yBe (N := 10000) (l := yC5 (kG m n) (n + 1)) (fun s hs => by
  have h1 := List.mem_of_mem_drop (List.mem_of_mem_take hs)
  exact hsz s (List.mem_of_mem_drop h1))
 have h2 : (10000 + 5) * (yC5 (kG m n) (n + 1)).length ≤ (10000 + 5) * 8 := Nat.mul_le_mul_left _ hfl
 have hp := jS (kG m n) (n + 1)
 refine step_ok Γ hE r r' hr 2 dd n _ (by omega) (by omega) (by omega) [] (by simp) _ (by omega) (by omega) (done_2 Γ r r' dd n _ (by omega) hn [] _ ?_)
 rw [hr']; exact hG
end Go.Proofs.Tryz
