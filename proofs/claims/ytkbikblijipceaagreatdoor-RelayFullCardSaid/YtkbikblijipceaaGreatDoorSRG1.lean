/- Contracts of this program's functions. -/
import Derived.Test.YtkbikblijipceaaGreatDoorSRP4
set_option maxHeartbeats 4000000
set_option maxRecDepth 100000
set_option linter.unusedVariables false
set_option linter.unusedSimpArgs false
namespace Go.Proofs.Tryz
open Go Go.Ot
def XB : List UInt8 := [120]
def bR (c : Nat) : Mb := ⟨1, List.replicate c XB⟩
def fB (cs : List Rc) (c : Nat) : Rl := ⟨[⟨1, []⟩, bR c, bR c], cs.map rcF, [], 0, [(c : Int), 0, 0]⟩
def bG (n : Int) (j k : Nat) : Mb := if k ≤ j then kG (bR 60) n else bR 60
def fG (cs : List Rc) (n : Int) (j : Nat) : Rl := ⟨[⟨1, []⟩, bG n j 1, bG n j 2], cs.map rcF, [], 0, [60, 0, 0]⟩
theorem fG_0 (cs : List Rc) (n : Int) : fG cs n 0 = fB cs 60 := rfl
theorem fB_0 {cs : List Rc} (h : cs.length = 3) : rA 3 cs cs.length = fB cs 0 := by
 show (⟨sK 3 3, (cs.take cs.length).map rcF, [], 0, List.replicate 3 0⟩ : Rl) = _
 rw [List.take_length]; rfl
theorem yDw {l : List Mb} {g : List (List UInt8)} {s : List UInt8} {n : Int} {z : List Int} (h1 : l.length ≤ 100) (h2 : ∀ m ∈ l, m.l.length ≤ 1000000) (h3 : g.length ≤ 1000000) (h4 : z.length ≤ 1000000) : rlS ⟨l, g, s, n, z⟩ := ⟨h1, fun i => by
 show (l.getD i default).l.length ≤ _
 by_cases h : i < l.length
 ·rw [dW h]; exact h2 _ (List.getElem_mem h)
 ·rw [List.getD_eq_getElem?_getD, List.getElem?_eq_none (by omega)]; exact Nat.zero_le _, h3, h4⟩
theorem qZ (c : Nat) : (bR c).l.length = c := List.length_replicate
theorem fB_s {cs : List Rc} (h : cs.length ≤ 40) {c : Nat} (hc : c ≤ 60) : rlS (fB cs c) := yDw (by show 3 ≤ 100; decide) (fun m hm => by
 rcases List.mem_cons.1 hm with rfl | hm
 ·exact Nat.zero_le _
 ·rcases List.mem_cons.1 hm with rfl | hm
  ·rw [qZ]; omega
  ·rw [List.mem_singleton.1 hm, qZ]; omega) (by rw [List.length_map]; omega) (by show 3 ≤ 1000000; decide)
theorem yHD (n : Int) (j k : Nat) : (bG n j k).l.length ≤ 60 := by
 rw [bG]; split
 ·have := yB7 (bR 60) n; rw [qZ] at this; exact this
 ·rw [qZ]; exact Nat.le_refl _
theorem fG_s {cs : List Rc} (h : cs.length ≤ 40) (n : Int) (j : Nat) : rlS (fG cs n j) := yDw (by show 3 ≤ 100; decide) (fun m hm => by
 rcases List.mem_cons.1 hm with rfl | hm
 ·exact Nat.zero_le _
 ·rcases List.mem_cons.1 hm with rfl | hm
  ·have := yHD n j 1; omega
  ·rw [List.mem_singleton.1 hm]; have := yHD n j 2; omega) (by rw [List.length_map]; omega) (by show 3 ≤ 1000000; decide)
theorem oL_3 {cs : List Rc} (h : cs.length = 3) (hi : inF cs 3 = [0, 1, 2]) {r : Rl} (hr : r.boxes.length = 3) : oL r cs = [1, 2] := by
 rw [oL, h, hi, hr]; decide +kernel
theorem cS {i : Nat} (h : i < 2) : i = 0 ∨ i = 1 := by omega
theorem yH0 (Γ : Gl) (hE : EG Γ) {cs : List Rc} (h3 : cs.length = 3) (hck : ckB cs = true) (hi : inF cs 3 = [0, 1, 2]) {c : Nat} (hc : c < 60) :
  Go.Ot.Good Γ prog 14 [.agg [.t (.sl (fB cs c).boxes.length ((fB cs c).boxes.flatMap mbT)), .t (lst txt (fB cs c).log), .t (txt (fB cs c).snap), .t (num (fB cs c).shares), .t (lst num (fB cs c).last)], .t (txt (Rq.p ⟨1, 0, (c : Int) + 1, XB⟩))] [] (.tup [.agg [.t (.sl (fB cs (c + 1)).boxes.length ((fB cs (c + 1)).boxes.flatMap mbT)), .t (lst txt (fB cs (c + 1)).log), .t (txt (fB cs (c + 1)).snap), .t (num (fB cs (c + 1)).shares), .t (lst num (fB cs (c + 1)).last)], .t (txt (Rp.p ⟨1, 0, (c : Int) + 1, []⟩))]) [] [] := by
 have ho := oL_3 h3 hi (r := fB cs c) rfl
 have hs : List.replicate c XB ++ [XB] = List.replicate (c + 1) XB := List.replicate_succ'.symm
 refine yBi Γ hE (fB cs c) (fB_s (by omega) (by omega)) ((c : Int) + 1) (by omega) XB (by decide) c rfl (by show 0 < 3; decide) (by show 0 < 3; decide) (by omega) cs rfl hck (by omega) ?_ ?_ (fB cs (c + 1)) ?_
 ·intro i h
  rw [ho] at h ⊢
  rcases cS h with rfl | rfl
  ·show (bR c).l.length < 60; rw [qZ]; exact hc
  ·show (bR c).l.length < 60; rw [qZ]; exact hc
 ·intro i h
  rw [ho] at h ⊢
  rcases cS h with rfl | rfl
  ·show (bR c).l.length < 60; rw [qZ]; exact hc
  ·show (bR c).l.length < 60; rw [qZ]; exact hc
 ·rw [ho]
  show (⟨[⟨1, []⟩, ⟨1, List.replicate (c + 1) XB⟩, ⟨1, List.replicate (c + 1) XB⟩], _, _, _, _⟩ : Rl) = ⟨[⟨1, []⟩, ⟨1, List.replicate c XB ++ [XB]⟩, ⟨1, List.replicate c XB ++ [XB]⟩], _, _, _, _⟩
  rw [hs]; rfl
theorem yHY (Γ : Gl) (hE : EG Γ) {cs : List Rc} (h3 : cs.length = 3) (hck : ckB cs = true) (hi : inF cs 3 = [0, 1, 2]) {n : Int} (hn : 60 < n ∧ n ≤ 1000) :
  Go.Ot.Good Γ prog 14 [.agg [.t (.sl (fB cs 60).boxes.length ((fB cs 60).boxes.flatMap mbT)), .t (lst txt (fB cs 60).log), .t (txt (fB cs 60).snap), .t (num (fB cs 60).shares), .t (lst num (fB cs 60).last)], .t (txt (Rq.p ⟨1, 0, n, XB⟩))] [] (.tup [.agg [.t (.sl (fB cs 60).boxes.length ((fB cs 60).boxes.flatMap mbT)), .t (lst txt (fB cs 60).log), .t (txt (fB cs 60).snap), .t (num (fB cs 60).shares), .t (lst num (fB cs 60).last)], .t (txt (Rp.p ⟨1, 12, 0, []⟩))]) [] [] := by
 have ho := oL_3 h3 hi (r := fB cs 60) rfl
 refine yDd Γ hE (fB cs 60) (fB_s (by omega) (by omega)) n (by omega) XB (by decide) 60 rfl (by show 0 < 3; decide) (by show 0 < 3; decide) (by omega) cs rfl hck (by omega) 0 (by rw [ho]; decide) ?_ (fun i h => absurd h (Nat.not_lt_zero _))
 rw [ho]; show 60 ≤ (bR 60).l.length; rw [qZ]; exact Nat.le_refl _
theorem yFz (Γ : Gl) (hE : EG Γ) {cs : List Rc} (h3 : cs.length = 3) {n : Int} (hn : 1 ≤ n ∧ n ≤ 8) {j : Nat} (hj : j < 2) :
  ∃ y l, Go.Ot.Good Γ prog 14 [.agg [.t (.sl (fG cs n j).boxes.length ((fG cs n j).boxes.flatMap mbT)), .t (lst txt (fG cs n j).log), .t (txt (fG cs n j).snap), .t (num (fG cs n j).shares), .t (lst num (fG cs n j).last)], .t (txt (Rq.p ⟨2, (j : Int) + 1, n, []⟩))] [] (.tup [.agg [.t (.sl (fG cs n (j + 1)).boxes.length ((fG cs n (j + 1)).boxes.flatMap mbT)), .t (lst txt (fG cs n (j + 1)).log), .t (txt (fG cs n (j + 1)).snap), .t (num (fG cs n (j + 1)).shares), .t (lst num (fG cs n (j + 1)).last)], .t (txt (Rp.p ⟨2, 0, y, l⟩))]) [] [] := by
 have hx : ∀ s ∈ (bR 60).l, s.length ≤ 10000 := fun s hs => by rw [List.eq_of_mem_replicate hs]; decide
 rcases cS hj with rfl | rfl
 ·exact ⟨_, _, fJ Γ hE (fG cs n 0) (fG_s (by omega) n 0) 1 (by show 1 < 3; decide) n (by omega) (bR 60) rfl (by decide) hx (fG cs n 1) rfl⟩
 ·exact ⟨_, _, fJ Γ hE (fG cs n 1) (fG_s (by omega) n 1) 2 (by show 2 < 3; decide) n (by omega) (bR 60) rfl (by decide) hx (fG cs n 2) rfl⟩
theorem yE4 {n : Int} (hn : 1 ≤ n ∧ n ≤ 8) : (kG (bR 60) n).l.length < 60 := by
 have h1 : yHE (bR 60) n = n + 1 := by
  rw [yHE, show min n ((bR 60).first + ((bR 60).l.length : Int)) = n from by rw [qZ]; show min n (1 + 60) = n; omega, yBx (by rw [qZ]; show ¬ (1 : Int) + 60 < n + 1; omega) (by show (1 : Int) ≤ n + 1; omega)]
 show ((bR 60).l.drop (yHE (bR 60) n - (bR 60).first).toNat).length < 60
 rw [h1, List.length_drop, qZ]
 show 60 - (n + 1 - 1).toNat < 60
 omega
theorem yHZ (Γ : Gl) (hE : EG Γ) {cs : List Rc} (h3 : cs.length = 3) (hck : ckB cs = true) (hi : inF cs 3 = [0, 1, 2]) {n : Int} (hn : 1 ≤ n ∧ n ≤ 8) :
  ∃ r' : Rl, Go.Ot.Good Γ prog 14 [.agg [.t (.sl (fG cs n 2).boxes.length ((fG cs n 2).boxes.flatMap mbT)), .t (lst txt (fG cs n 2).log), .t (txt (fG cs n 2).snap), .t (num (fG cs n 2).shares), .t (lst num (fG cs n 2).last)], .t (txt (Rq.p ⟨1, 0, 100, XB⟩))] [] (.tup [.agg [.t (.sl r'.boxes.length (r'.boxes.flatMap mbT)), .t (lst txt r'.log), .t (txt r'.snap), .t (num r'.shares), .t (lst num r'.last)], .t (txt (Rp.p ⟨1, 0, 100, []⟩))]) [] [] := by
 have ho := oL_3 h3 hi (r := fG cs n 2) rfl
 have hs := yE4 hn
 refine ⟨_, yBi Γ hE (fG cs n 2) (fG_s (by omega) n 2) 100 (by decide) XB (by decide) 60 rfl (by show 0 < 3; decide) (by show 0 < 3; decide) (by decide) cs rfl hck (by omega) ?_ ?_ _ rfl⟩
 ·intro i h
  rw [ho] at h ⊢
  rcases cS h with rfl | rfl
  ·exact hs
  ·exact hs
 ·intro i h
  rw [ho] at h ⊢
  rcases cS h with rfl | rfl
  ·exact hs
  ·exact hs
theorem log3 : (lgE [115, 101, 99, 114, 101, 116] [109, 97, 115, 116, 101, 114] [0, 1]).length = 3 := by rw [yIN]; rfl
theorem inF3 : inF (lgE [115, 101, 99, 114, 101, 116] [109, 97, 115, 116, 101, 114] [0, 1]) 3 = [0, 1, 2] := by
 have e : lgE [115, 101, 99, 114, 101, 116] [109, 97, 115, 116, 101, 114] [0, 1] = lgL [115, 101, 99, 114, 101, 116] [109, 97, 115, 116, 101, 114] [0, 1] 2 := rfl
 have e0 : inF (lgL [115, 101, 99, 114, 101, 116] [109, 97, 115, 116, 101, 114] [0, 1] 0) 1 = [0] := rfl
 have l0 : (lgL [115, 101, 99, 114, 101, 116] [109, 97, 115, 116, 101, 114] [0, 1] 0).length = 1 := rfl
 have k0 : lgK (lgL [115, 101, 99, 114, 101, 116] [109, 97, 115, 116, 101, 114] [0, 1] 0) 0 = 1 := by rw [lgK, l0, e0]; rfl
 have e1 : inF (lgL [115, 101, 99, 114, 101, 116] [109, 97, 115, 116, 101, 114] [0, 1] 1) 2 = [0, 1] := by
  rw [yCA, show (2 : Nat) = (lgL [115, 101, 99, 114, 101, 116] [109, 97, 115, 116, 101, 114] [0, 1] 0).length + 1 from rfl, pI (by rw [qT]; exact k0), qT, mT _ (Nat.le_refl _), l0, e0]; rfl
 have l1 : (lgL [115, 101, 99, 114, 101, 116] [109, 97, 115, 116, 101, 114] [0, 1] 1).length = 2 := wY _ _ _ 1
 have k1 : lgK (lgL [115, 101, 99, 114, 101, 116] [109, 97, 115, 116, 101, 114] [0, 1] 1) 1 = 1 := by rw [lgK, l1, e1]; rfl
 rw [e, yCA, show (3 : Nat) = (lgL [115, 101, 99, 114, 101, 116] [109, 97, 115, 116, 101, 114] [0, 1] 1).length + 1 from by rw [l1], pI (by rw [qT]; exact k1), qT, mT _ (Nat.le_refl _), l1, e1]; rfl
end Go.Proofs.Tryz

namespace Go.Proofs.Tryz
open Go Go.Ot
attribute [local irreducible] wpK wpS uE wH wV wN wZ xD Le rdS lpW rdW got tB mayW uW putW nb u64 qB GQ GP tsz wTs Rq.p Rp.p rA lgE rcF ckB sK fB fG inF
theorem yEw (Γ : Gl) (hE : EG Γ) (mo : UInt8) : Go.Ot.Good Γ prog 5 [.t (w8 mo)] [] (.t (bol true)) [] [] := by
 refine yR F.mix func5 (by rfl) ntmps5 ?_
 refine yD (yA rfl ?_)
 refine yF ?_
 refine yE (yB (yC (yD (yA rfl ?_))))
 obtain ⟨cs, hcs⟩ : ∃ cs, lgE [115, 101, 99, 114, 101, 116] [109, 97, 115, 116, 101, 114] [0, 1] = cs := ⟨_, rfl⟩
 have hck : ckB cs = true := by rw [← hcs]; exact lgE_ck _ _ _
 have h3 : cs.length = 3 := by rw [← hcs]; exact log3
 have hin : inF cs 3 = [0, 1, 2] := by rw [← hcs]; exact inF3
 refine yF ?_
 refine yU [.r 1 0 0] true ((by have h := log_rc Γ [115, 101, 99, 114, 101, 116] [109, 97, 115, 116, 101, 114] (by decide) (by decide) [0, 1] (by decide); rw [hcs] at h; exact h)) ?_ (hv := by (simp (maxSteps := 2000000) (disch := first | omega | (simp only [zL] <;> omega) | fail) [-List.map_map, -List.map_drop, -List.map_take, VwL_cons, xM, xY, vN, xV, xW, xU, Vw_agg, xS, xX, xA, VwL_refl_map, yX, xK, xL, wK, xJ, yW, xC, yV, VwTs_app, List.take_of_length_le, srcL, notIn, ObsVw, SrcOk, pOk, Go.Ot.look, resP, resN, ev, evc, mkS, push_cast, List.take_of_length_le] <;> (try omega)))
 refine yF ?_
 refine yE (yB (yC (yD (yA rfl ?_))))
 refine yU [] true (aF Γ) ?_
 iterate 2 refine yF ?_
 refine yE (yB (yC (yD (yD (yA rfl ?_)))))
 refine yF ?_
 refine yE (yB (yC (yH ?_)))
 refine xN (fun sl L (i : Nat) => ⟨setAll (setBad sl [16, 17, 18, 19, 20, 21, 22, 23, 24, 25, 26, 27, 28, 29, 30, 31, 32, 33, 34, 35, 36]) [(5, .t (num i))], Go.Ot.look (vD (.r 2 1 0) (xR 31 [.t (.sl (rA 3 cs i).boxes.length ((rA 3 cs i).boxes.flatMap mbT)), .t (lst txt (rA 3 cs i).log), .t (txt (rA 3 cs i).snap), .t (num (rA 3 cs i).shares), .t (lst num (rA 3 cs i).last)]) (lN (.r 1 0 0) L))⟩) (fun i => i ≤ cs.length) (fun i => cs.length - i) (0) (wF ?_) ?_ ?_
 ·refine wL [(.r 2 1 0, .r 2 1 0)] ?_ ?_ ?_ <;> simp [-List.map_set, -List.map_replicate, -List.reduceReplicate, -List.map_map, -List.map_drop, -List.map_take, num, bol, txt, w8, w16, w32, w64, lst, cls, xZ, xR, List.take_of_length_le, Wr.cellsL_len, wA, Wr.k_mk, Wr.n_mk, Wr.s_mk, Wr.l_mk, Wr.cellsL, Wr.z_eq, mbT, qA, rA_0]
 ·(first | omega | simp)
 ·intro i hi
  refine vE ?_
  refine yD (yD (yA rfl ?_))
  iterate 4 refine yF ?_
  refine yE (yB (yC ?_))
  refine vL (fun hc0 => ?_) (fun hc0 => ?_)
  ·(try simp only [zB] at hc0)
   refine yL (yC (yD (yH (yA rfl ?_))))
   have hil : i < cs.length := by omega
   obtain ⟨c, hc⟩ : ∃ c, cs.getD i default = c := ⟨_, rfl⟩
   have hcp := (kC hck hil).1
   rw [hc] at hcp
   have hc2 := nQ c
   iterate 5 refine yY ?_
   simp only [hc]
   refine yZ [] false (yIb Γ c hcp) ?_
   refine yY ?_
   refine yZ [] false (tT Γ ⟨4, 0, 0, rcF c⟩) ?_ (hv := by (simp (disch := first | omega | (simp only [zL] <;> omega) | fail) [-List.map_map, -List.map_drop, -List.map_take, VwL_cons, xM, xY, vN, xV, xW, xU, Vw_agg, xS, xX, xA, VwL_refl_map, yX, xK, xL, wK, xJ, yW, xC, yV, VwTs_app, List.take_of_length_le, srcL, notIn, ObsVw, SrcOk, pOk, Go.Ot.look, resP, resN, ev, evc, mkS, push_cast, List.take_of_length_le, qA] <;> (try omega)))
   refine yZ [] true ((by have h := yDf Γ hE (k := 3) (by decide) hck hil 0 (by decide); rw [hc] at h; exact h)) ?_ (hv := by (simp (maxSteps := 2000000) (disch := first | omega | (simp only [zL] <;> omega) | fail) [-List.map_map, -List.map_drop, -List.map_take, VwL_cons, xM, xY, vN, xV, xW, xU, Vw_agg, xS, xX, xA, VwL_refl_map, yX, xK, xL, wK, xJ, yW, xC, yV, VwTs_app, List.take_of_length_le, srcL, notIn, ObsVw, SrcOk, pOk, Go.Ot.look, resP, resN, ev, evc, mkS, push_cast, List.take_of_length_le] <;> (try omega)))
   iterate 4 refine yY ?_
   refine yE (xO (by kernel_rfl) (yS (yC (yA rfl ?_))))
   iterate 3 refine yF ?_
   refine yE (yB ?_)
   refine xE (i + 1) (wF ?_) ?_ ?_
   ·refine wL [(.r 2 1 0, .r 2 1 0)] ?_ ?_ ?_ <;> simp [-List.map_set, -List.map_replicate, -List.reduceReplicate, -List.map_map, -List.map_drop, -List.map_take, num, bol, txt, w8, w16, w32, w64, lst, cls, xZ, xR, List.take_of_length_le, Wr.cellsL_len, wA, Wr.k_mk, Wr.n_mk, Wr.s_mk, Wr.l_mk, Wr.cellsL, Wr.z_eq, mbT, qA]
   ·(first | omega | (simp_all <;> omega))
   ·(first | omega | (simp only []; omega))
  ·(try simp only [zB] at hc0)
   refine xQ (yM (yN (yK (yC (yD (yA rfl ?_))))))
   have hil : cs.length = i := by omega
   subst hil
   have hfb := fB_0 h3
   have hm8 := mo.toNat_lt
   obtain ⟨e, he, he4⟩ : ∃ e : Nat, mo.toNat % 4 = e ∧ e < 4 := ⟨_, rfl, by omega⟩
   have het : (mo.toNat : Int).tmod 4 = (e : Int) := by rw [Int.tmod_eq_emod_of_nonneg (by omega)]; omega
   have hem : (mo.toNat : Int) % 4 = (e : Int) := by omega
   obtain ⟨y, hy⟩ : ∃ y : Nat, mo.toNat / 4 = y := ⟨_, rfl⟩
   obtain ⟨z, hz, hz8⟩ : ∃ z : Nat, y % 8 = z ∧ z < 8 := ⟨_, rfl, by omega⟩
   have hyt : (mo.toNat : Int).tdiv 4 = (y : Int) := by rw [Int.tdiv_eq_ediv_of_nonneg (by omega)]; omega
   have hye : (mo.toNat : Int) / 4 = (y : Int) := by omega
   have hzt : (y : Int).tmod 8 = (z : Int) := by rw [Int.tmod_eq_emod_of_nonneg (by omega)]; omega
   have hze : (y : Int) % 8 = (z : Int) := by omega
   refine yF ?_
   refine yE (yB (yC (yD (yD (yA rfl ?_)))))
   refine yF ?_
   refine yE (yB (yC (yH ?_)))
   refine xN (fun sl L (q : Nat × Nat) => ⟨setAll (setBad sl [2, 3, 5, 8, 9, 10, 11, 16, 17, 18, 19, 20, 21, 22, 23, 24, 25, 26, 27, 28, 29, 30, 31, 32, 33, 34, 35, 36, 37, 38, 39, 40, 41, 42, 43, 44, 45, 46, 47, 48, 49, 50, 51, 52, 53, 54, 55, 56, 57, 58, 59, 60, 61, 62, 63, 64, 65, 66, 67, 68, 69, 70, 71, 72, 73, 74, 75, 76, 77, 78, 79, 80, 81]) [(6, .t (num q.2)), (7, .t (num ((q.1 : Int) + 1)))], Go.Ot.look (vD (.r 2 1 0) (xR 31 [.t (.sl (fB cs q.2).boxes.length ((fB cs q.2).boxes.flatMap mbT)), .t (lst txt (fB cs q.2).log), .t (txt (fB cs q.2).snap), .t (num (fB cs q.2).shares), .t (lst num (fB cs q.2).last)]) L)⟩) (fun q => q.1 ≤ 60 + e ∧ q.2 = min q.1 60) (fun q => 60 + e - q.1) ((0, 0)) (wF ?_) ?_ ?_
   ·refine wL [(.r 2 1 0, .r 2 1 0)] ?_ ?_ ?_ <;> simp [-List.map_set, -List.map_replicate, -List.reduceReplicate, -List.map_map, -List.map_drop, -List.map_take, num, bol, txt, w8, w16, w32, w64, lst, cls, xZ, xR, List.take_of_length_le, Wr.cellsL_len, wA, Wr.k_mk, Wr.n_mk, Wr.s_mk, Wr.l_mk, Wr.cellsL, Wr.z_eq, mbT, qA, hfb]
   ·exact ⟨Nat.zero_le _, rfl⟩
   ·rintro ⟨i, c⟩ ⟨hi, hc⟩
    simp only at hi hc
    refine vE ?_
    refine yD (yD (yA rfl ?_))
    iterate 3 refine yF ?_
    refine yF (hs := by (simp (disch := first | omega | (simp only [zL] <;> omega) | (simp only [push_cast] <;> omega) | fail) only [push_cast, reduceCtorEq, Nat.reduceAdd, Nat.reduceSub, Nat.reduceMul, Nat.reduceEqDiff, Nat.reduceLT, Nat.reduceLeDiff, Nat.reduceMod, Nat.reduceDiv, Int.reduceLE, Int.reduceLT, Int.reduceEq, Int.reduceToNat, Int.reduceAdd, Int.reduceSub, Int.reduceMul, Int.reduceNeg, het, hem] <;> rfl)) ?_
    iterate 2 refine yF ?_
    refine yE (yB (yC ?_))
    refine vL (fun hc1 => ?_) (fun hc1 => ?_)
    ·(try simp only [zB] at hc1)
     refine yL (yC (yD (yH (yD (yA rfl ?_)))))
     rcases (show (i < 60 ∧ c = i) ∨ (60 ≤ i ∧ c = 60) by omega) with ⟨h6, hci⟩ | ⟨h6, rfl⟩
     ·obtain rfl : i = c := hci.symm
      have g := yFh (k := 1) (d := 0) (n := (i : Int) + 1) (l := []) (by omega) (by omega) (by omega) (by simp) (by simp)
      iterate 3 refine yY ?_
      refine yZ [] false (tT Γ ⟨1, 0, (i : Int) + 1, XB⟩) ?_ (hv := by (simp (disch := first | omega | (simp only [zL] <;> omega) | fail) [-List.map_map, -List.map_drop, -List.map_take, VwL_cons, xM, xY, vN, xV, xW, xU, Vw_agg, xS, xX, xA, VwL_refl_map, yX, xK, xL, wK, xJ, yW, xC, yV, VwTs_app, List.take_of_length_le, srcL, notIn, ObsVw, SrcOk, pOk, Go.Ot.look, resP, resN, ev, evc, mkS, push_cast, List.take_of_length_le, qA, XB] <;> (try omega)))
      refine yZ [] true (yH0 Γ hE h3 hck hin h6) ?_ (hv := by (simp (maxSteps := 2000000) (disch := first | omega | (simp only [zL] <;> omega) | fail) [-List.map_map, -List.map_drop, -List.map_take, VwL_cons, xM, xY, vN, xV, xW, xU, Vw_agg, xS, xX, xA, VwL_refl_map, yX, xK, xL, wK, xJ, yW, xC, yV, VwTs_app, List.take_of_length_le, srcL, notIn, ObsVw, SrcOk, pOk, Go.Ot.look, resP, resN, ev, evc, mkS, push_cast, List.take_of_length_le] <;> (try omega)))
      iterate 6 refine yY ?_
      refine yE (xO (by kernel_rfl) (yC (yD (yA rfl ?_))))
      refine yF ?_
      refine yU [] true ((by have h := nI Γ (Rp.p ⟨1, 0, (i : Int) + 1, []⟩) g.2; rw [g.1, pZ] at h; exact h)) ?_
      iterate 2 refine yF ?_
      refine yE (yB (yC (yD (yA rfl ?_))))
      refine yF ?_
      refine yE (yB (yC (yD (yD (yA rfl ?_)))))
      iterate 2 refine yF ?_
      refine yE (yB (yC (yJ (yL (yC (yD (yD (yA rfl ?_))))))))
      iterate 4 refine yF ?_
      iterate 3 refine xB ?_
      refine wT [] false (kS Γ 0) ?_
      iterate 2 refine xB ?_
      iterate 2 refine yF ?_
      iterate 3 refine xB ?_
      iterate 4 refine wJ ?_
      refine xB ?_
      refine yF ?_
      refine yE (yB (yC (yJ (yL (yC (yD (yD (yA rfl ?_))))))))
      iterate 2 refine yF ?_
      refine yE (yB (yC (xF (yA rfl ?_))))
      iterate 2 refine yF ?_
      refine yE (yB (yC (yA rfl ?_)))
      iterate 2 refine yF ?_
      refine yE (yB (yS (yC (yA rfl ?_))))
      iterate 3 refine yF ?_
      refine yE (yB ?_)
      refine xE ((i + 1, i + 1)) (wF ?_) ?_ ?_
      ·refine wL [(.r 2 1 0, .r 2 1 0)] ?_ ?_ ?_ <;> simp [-List.map_set, -List.map_replicate, -List.reduceReplicate, -List.map_map, -List.map_drop, -List.map_take, num, bol, txt, w8, w16, w32, w64, lst, cls, xZ, xR, List.take_of_length_le, Wr.cellsL_len, wA, Wr.k_mk, Wr.n_mk, Wr.s_mk, Wr.l_mk, Wr.cellsL, Wr.z_eq, mbT, qA]
      ·exact ⟨by simp only []; omega, by simp only []; omega⟩
      ·simp only []; omega
     ·have g := yFh (k := 1) (d := 12) (n := 0) (l := []) (by omega) (by omega) (by omega) (by simp) (by simp)
      iterate 3 refine yY ?_
      refine yZ [] false (tT Γ ⟨1, 0, (i : Int) + 1, XB⟩) ?_ (hv := by (simp (disch := first | omega | (simp only [zL] <;> omega) | fail) [-List.map_map, -List.map_drop, -List.map_take, VwL_cons, xM, xY, vN, xV, xW, xU, Vw_agg, xS, xX, xA, VwL_refl_map, yX, xK, xL, wK, xJ, yW, xC, yV, VwTs_app, List.take_of_length_le, srcL, notIn, ObsVw, SrcOk, pOk, Go.Ot.look, resP, resN, ev, evc, mkS, push_cast, List.take_of_length_le, qA, XB] <;> (try omega)))
      refine yZ [] true (yHY Γ hE h3 hck hin (n := (i : Int) + 1) (by omega)) ?_ (hv := by (simp (maxSteps := 2000000) (disch := first | omega | (simp only [zL] <;> omega) | fail) [-List.map_map, -List.map_drop, -List.map_take, VwL_cons, xM, xY, vN, xV, xW, xU, Vw_agg, xS, xX, xA, VwL_refl_map, yX, xK, xL, wK, xJ, yW, xC, yV, VwTs_app, List.take_of_length_le, srcL, notIn, ObsVw, SrcOk, pOk, Go.Ot.look, resP, resN, ev, evc, mkS, push_cast, List.take_of_length_le] <;> (try omega)))
      iterate 6 refine yY ?_
      refine yE (xO (by kernel_rfl) (yC (yD (yA rfl ?_))))
      refine yF ?_
      refine yU [] true ((by have h := nI Γ (Rp.p ⟨1, 12, 0, []⟩) g.2; rw [g.1, pZ] at h; exact h)) ?_
      iterate 2 refine yF ?_
      refine yE (yB (yC (yD (yA rfl ?_))))
      refine yF ?_
      refine yE (yB (yC (yD (yD (yA rfl ?_)))))
      iterate 2 refine yF ?_
      refine yE (yB (yC (xF (yA rfl ?_))))
      refine yF ?_
      refine yE (yB (yC (yD (yD (yA rfl ?_)))))
      iterate 4 refine yF ?_
      iterate 3 refine xB ?_
      refine wT [] false (kS Γ 12) ?_
      iterate 2 refine xB ?_
      iterate 2 refine yF ?_
      iterate 5 refine xB ?_
      refine wT [] false (yCk Γ (fB cs 60) (fB_s (by omega) (by omega))) ?_
      iterate 2 refine xB ?_
      refine yF ?_
      refine yE (yB (yC (yJ (yL (yC (yD (yD (yA rfl ?_))))))))
      iterate 2 refine yF ?_
      refine yE (yB (yC (yJ (yL (yC (yA rfl ?_))))))
      iterate 2 refine yF ?_
      refine yE (yB (yS (yC (yA rfl ?_))))
      iterate 3 refine yF ?_
      refine yE (yB ?_)
      refine xE ((i + 1, 60)) (wF ?_) ?_ ?_
      ·refine wL [(.r 2 1 0, .r 2 1 0)] ?_ ?_ ?_ <;> simp [-List.map_set, -List.map_replicate, -List.reduceReplicate, -List.map_map, -List.map_drop, -List.map_take, num, bol, txt, w8, w16, w32, w64, lst, cls, xZ, xR, List.take_of_length_le, Wr.cellsL_len, wA, Wr.k_mk, Wr.n_mk, Wr.s_mk, Wr.l_mk, Wr.cellsL, Wr.z_eq, mbT, qA]
      ·exact ⟨by simp only []; omega, by simp only []; omega⟩
      ·simp only []; omega
    ·(try simp only [zB] at hc1)
     refine xQ (yM (yN (yK (yC (yD (yD (yA rfl ?_)))))))
     obtain rfl : c = 60 := by omega
     refine yF ?_
     refine yE (yB (yC (yH ?_)))
     refine xN (fun sl L (j : Nat) => ⟨setAll (setBad sl [3, 5, 7, 8, 9, 10, 11, 16, 17, 18, 19, 20, 21, 22, 23, 24, 25, 26, 27, 28, 29, 30, 31, 32, 33, 34, 35, 36, 37, 38, 39, 40, 41, 42, 43, 44, 45, 46, 47, 48, 49, 50, 51, 52, 53, 54, 55, 56, 57, 58, 59, 60, 61, 62, 63, 64, 65, 66, 67, 68, 69, 70, 71, 72, 73, 74, 75, 76, 77, 78, 79, 80, 81, 82, 83, 84, 85, 86, 87, 88, 89, 90, 91, 92, 93, 94, 95, 96, 97, 98]) [(12, .t (num ((j : Int) + 1)))], Go.Ot.look (vD (.r 2 1 0) (xR 31 [.t (.sl (fG cs (1 + (z : Int)) j).boxes.length ((fG cs (1 + (z : Int)) j).boxes.flatMap mbT)), .t (lst txt (fG cs (1 + (z : Int)) j).log), .t (txt (fG cs (1 + (z : Int)) j).snap), .t (num (fG cs (1 + (z : Int)) j).shares), .t (lst num (fG cs (1 + (z : Int)) j).last)]) L)⟩) (fun j => j ≤ 2) (fun j => 2 - j) (0) (wF ?_) ?_ ?_
     ·refine wL [(.r 2 1 0, .r 2 1 0)] ?_ ?_ ?_ <;> simp [-List.map_set, -List.map_replicate, -List.reduceReplicate, -List.map_map, -List.map_drop, -List.map_take, num, bol, txt, w8, w16, w32, w64, lst, cls, xZ, xR, List.take_of_length_le, Wr.cellsL_len, wA, Wr.k_mk, Wr.n_mk, Wr.s_mk, Wr.l_mk, Wr.cellsL, Wr.z_eq, mbT, qA, fG_0]
     ·(first | omega | simp)
     ·intro j hj
      refine vE ?_
      refine yD (yD (yA rfl ?_))
      iterate 2 refine yF ?_
      refine yE (yB (yC ?_))
      refine vL (fun hc5 => ?_) (fun hc5 => ?_)
      ·(try simp only [zB] at hc5)
       refine yL (yC (yD (yH (yA rfl ?_))))
       have hj2 : j < 2 := by omega
       obtain ⟨y1, l1, hS⟩ := yFz Γ hE (cs := cs) h3 (n := 1 + (z : Int)) (by omega) hj2
       iterate 4 refine yY ?_
       refine yY (hs := by (simp (disch := first | omega | (simp only [zL] <;> omega) | (simp only [push_cast] <;> omega) | fail) only [push_cast, reduceCtorEq, Nat.reduceAdd, Nat.reduceSub, Nat.reduceMul, Nat.reduceEqDiff, Nat.reduceLT, Nat.reduceLeDiff, Nat.reduceMod, Nat.reduceDiv, Int.reduceLE, Int.reduceLT, Int.reduceEq, Int.reduceToNat, Int.reduceAdd, Int.reduceSub, Int.reduceMul, Int.reduceNeg, hyt, hye] <;> rfl)) ?_
       refine yY (hs := by (simp (disch := first | omega | (simp only [zL] <;> omega) | (simp only [push_cast] <;> omega) | fail) only [push_cast, reduceCtorEq, Nat.reduceAdd, Nat.reduceSub, Nat.reduceMul, Nat.reduceEqDiff, Nat.reduceLT, Nat.reduceLeDiff, Nat.reduceMod, Nat.reduceDiv, Int.reduceLE, Int.reduceLT, Int.reduceEq, Int.reduceToNat, Int.reduceAdd, Int.reduceSub, Int.reduceMul, Int.reduceNeg, hzt, hze] <;> rfl)) ?_
       iterate 2 refine yY ?_
       refine yZ [] false (tT Γ ⟨2, (j : Int) + 1, 1 + (z : Int), []⟩) ?_ (hv := by (simp (disch := first | omega | (simp only [zL] <;> omega) | fail) [-List.map_map, -List.map_drop, -List.map_take, VwL_cons, xM, xY, vN, xV, xW, xU, Vw_agg, xS, xX, xA, VwL_refl_map, yX, xK, xL, wK, xJ, yW, xC, yV, VwTs_app, List.take_of_length_le, srcL, notIn, ObsVw, SrcOk, pOk, Go.Ot.look, resP, resN, ev, evc, mkS, push_cast, List.take_of_length_le, qA] <;> (try omega)))
       refine yZ [] true (hS) ?_ (hv := by (simp (maxSteps := 2000000) (disch := first | omega | (simp only [zL] <;> omega) | fail) [-List.map_map, -List.map_drop, -List.map_take, VwL_cons, xM, xY, vN, xV, xW, xU, Vw_agg, xS, xX, xA, VwL_refl_map, yX, xK, xL, wK, xJ, yW, xC, yV, VwTs_app, List.take_of_length_le, srcL, notIn, ObsVw, SrcOk, pOk, Go.Ot.look, resP, resN, ev, evc, mkS, push_cast, List.take_of_length_le] <;> (try omega)))
       iterate 4 refine yY ?_
       refine yE (xO (by kernel_rfl) (yS (yC (yA rfl ?_))))
       iterate 3 refine yF ?_
       refine yE (yB ?_)
       refine xE (j + 1) (wF ?_) ?_ ?_
       ·refine wL [(.r 2 1 0, .r 2 1 0)] ?_ ?_ ?_ <;> simp [-List.map_set, -List.map_replicate, -List.reduceReplicate, -List.map_map, -List.map_drop, -List.map_take, num, bol, txt, w8, w16, w32, w64, lst, cls, xZ, xR, List.take_of_length_le, Wr.cellsL_len, wA, Wr.k_mk, Wr.n_mk, Wr.s_mk, Wr.l_mk, Wr.cellsL, Wr.z_eq, mbT, qA]
       ·(first | omega | (simp_all <;> omega))
       ·(first | omega | (simp only []; omega))
      ·(try simp only [zB] at hc5)
       refine xQ (yM (yN (yK (yC (yD (yA rfl ?_))))))
       obtain rfl : j = 2 := by omega
       obtain ⟨r', hS⟩ := yHZ Γ hE h3 hck hin (n := 1 + (z : Int)) (by omega)
       have g2 := yFh (k := 1) (d := 0) (n := 100) (l := []) (by omega) (by omega) (by omega) (by simp) (by simp)
       iterate 2 refine yY ?_
       refine yZ [] false (tT Γ ⟨1, 0, 100, XB⟩) ?_ (hv := by (simp (disch := first | omega | (simp only [zL] <;> omega) | fail) [-List.map_map, -List.map_drop, -List.map_take, VwL_cons, xM, xY, vN, xV, xW, xU, Vw_agg, xS, xX, xA, VwL_refl_map, yX, xK, xL, wK, xJ, yW, xC, yV, VwTs_app, List.take_of_length_le, srcL, notIn, ObsVw, SrcOk, pOk, Go.Ot.look, resP, resN, ev, evc, mkS, push_cast, List.take_of_length_le, qA, XB] <;> (try omega)))
       refine yZ [] true (hS) ?_ (hv := by (simp (maxSteps := 2000000) (disch := first | omega | (simp only [zL] <;> omega) | fail) [-List.map_map, -List.map_drop, -List.map_take, VwL_cons, xM, xY, vN, xV, xW, xU, Vw_agg, xS, xX, xA, VwL_refl_map, yX, xK, xL, wK, xJ, yW, xC, yV, VwTs_app, List.take_of_length_le, srcL, notIn, ObsVw, SrcOk, pOk, Go.Ot.look, resP, resN, ev, evc, mkS, push_cast, List.take_of_length_le] <;> (try omega)))
       iterate 6 refine yY ?_
       refine yE (xO (by kernel_rfl) (yC (yD (yA rfl ?_))))
       refine yF ?_
       refine yU [] true ((by have h := nI Γ (Rp.p ⟨1, 0, 100, []⟩) g2.2; rw [g2.1, pZ] at h; exact h)) ?_
       iterate 2 refine yF ?_
       refine yE (yB (yC (yD (yA rfl ?_))))
       iterate 3 refine yF ?_
       iterate 2 refine xB ?_
       iterate 2 refine yF ?_
       iterate 3 refine xB ?_
       refine wT [] false (kS Γ 0) ?_
       refine xB ?_
       iterate 2 refine yF ?_
       iterate 4 refine xB ?_
       iterate 2 refine yF ?_
       refine wT [] false (yCY Γ hE) ?_
       iterate 2 refine yF ?_
       refine yE (yB (yC (yO ?_)))
       refine ⟨.inr rfl, yP [] (by rw [results5]) ?_ ?_ ?_⟩ <;> simp [-List.map_set, -List.map_replicate, -List.reduceReplicate, -List.map_map, -List.map_drop, -List.map_take, num, bol, txt, w8, w16, w32, w64, lst, cls, xZ, xR, List.take_of_length_le, Wr.cellsL_len, wA, Wr.k_mk, Wr.n_mk, Wr.s_mk, Wr.l_mk, Wr.cellsL, Wr.z_eq, mbT, qA]
end Go.Proofs.Tryz
