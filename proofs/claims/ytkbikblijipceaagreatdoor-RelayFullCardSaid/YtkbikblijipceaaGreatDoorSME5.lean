/- Contracts of this program's functions. -/
import Derived.Test.YtkbikblijipceaaGreatDoorSME1
import Derived.Test.YtkbikblijipceaaGreatDoorOtE
import Derived.Test.YtkbikblijipceaaGreatDoorSQ1
set_option maxHeartbeats 4000000
set_option maxRecDepth 100000
set_option linter.unusedVariables false
set_option linter.unusedSimpArgs false
namespace Go.Proofs.Tryz
open Go Go.Ot
theorem eN (l : List Wp) : ((Wr.cellsL (wpW l)).map D.t).take (l.length * 4) = (Wr.cellsL (wpW l)).map D.t := eL (jC l)
def uG (l : List Wp) : Ob := ⟨(l.flatMap wpT).map .t, 100, true, true⟩
@[push_cast] theorem rowWp_eq (l : List Wp) : uG l = ⟨(l.flatMap wpT).map .t, 100, true, true⟩ := rfl
@[push_cast] theorem yEz (l : List Wp) : T.flatL (l.flatMap wpT) = true := yGt l
attribute [simp] yEz
def wpOf (x : Wr) : Wp := ⟨(x.l.getD 0 Wr.z).n, (x.l.getD 1 Wr.z).s⟩
def qE (l : List Wr) : List Wp := l.map wpOf
@[push_cast] theorem vX (l : List Wr) : (qE l).length = l.length := by simp [qE]
theorem wpsOf_nil : qE [] = [] := rfl
theorem yCa {l : List Wr} {i : Nat} (h : i < l.length) : qE (l.take (i + 1)) = qE (l.take i) ++ [wpOf (l.getD i default)] := by
 have e : l.getD i default = l[i] := by simp [List.getD_eq_getElem?_getD, List.getElem?_eq_getElem h]
 rw [List.take_add_one, List.getElem?_eq_getElem h, qE, List.map_append, e]; rfl
theorem yB9 (l : List Wr) : ((qE l).flatMap wpT).take (l.length * 2) = (qE l).flatMap wpT := List.take_of_length_le (by rw [uA, vX]; omega)
theorem qD (l : List Wr) : (((qE l).flatMap wpT).map D.t).take (l.length * 2) = ((qE l).flatMap wpT).map D.t := by rw [← List.map_take, yB9]
theorem yFo {x u v : Wr} (h : x.l = [u, v]) : wpOf x = ⟨u.n, v.s⟩ := by simp [wpOf, h]
def yFU (W : Wr) : Rc := ⟨(W.l.getD 0 Wr.z).n, (W.l.getD 1 Wr.z).s, (W.l.getD 2 Wr.z).n, (W.l.getD 3 Wr.z).n, qE (W.l.getD 4 Wr.z).l, (W.l.getD 5 Wr.z).s⟩
theorem yC6 (l : List Wp) : qE (wpW l) = l := by
 induction l with
 | nil => rfl
 | cons a l ih => simp only [wpW, List.map_cons, qE] at ih ⊢; rw [ih]; rfl
theorem yFT (r : Rc) : yFU (rcW r) = r := by
 show (⟨r.seq, r.prev, r.kind, r.dev, qE (wpW r.wraps), r.tag⟩ : Rc) = r
 rw [yC6]
theorem mw_dev {l : List Wp} (h : mwB l = true) : ∀ w ∈ l, 0 ≤ w.dev ∧ w.dev < 8 := fun w hw => by
 obtain ⟨i, hi, rfl⟩ := List.mem_iff_getElem.1 hw
 have h2 := wpOk_iff.1 (qO h hi)
 have e : l.getD i default = l[i] := by simp [List.getD_eq_getElem?_getD, List.getElem?_eq_getElem hi]
 rw [e] at h2
 exact ⟨h2.1, h2.2.1⟩
theorem yIs {r : Rc} (h : rcP r) : rangeW 6 (rcW r) := by
 obtain ⟨h1, h2, h3, h4, ⟨h5, h6⟩, h7, h8⟩ := h
 have hk : 1 ≤ r.kind ∧ r.kind ≤ 2 := by rcases h4 with h4 | h4 <;> omega
 have hd := mw_dev h8
 rw [rcW, mO]
 refine ⟨by omega, fun x hx => ?_⟩
 simp only [List.mem_cons, List.not_mem_nil, or_false] at hx
 rcases hx with rfl | rfl | rfl | rfl | rfl | rfl
 ·exact ⟨⟨by omega, by omega⟩, fun x hx => by cases hx⟩
 ·exact ⟨by omega, fun x hx => by cases hx⟩
 ·exact ⟨⟨by omega, by omega⟩, fun x hx => by cases hx⟩
 ·exact ⟨⟨by omega, by omega⟩, fun x hx => by cases hx⟩
 ·refine ⟨by omega, fun x hx => ?_⟩
  obtain ⟨w, hw, rfl⟩ := List.mem_map.1 hx
  have := hd w hw
  refine ⟨by omega, fun y hy => ?_⟩
  simp only [List.mem_cons, List.not_mem_nil, or_false] at hy
  rcases hy with rfl | rfl
  ·exact ⟨⟨by omega, by omega⟩, fun x hx => by cases hx⟩
  ·exact ⟨by omega, fun x hx => by cases hx⟩
 ·exact ⟨by omega, fun x hx => by cases hx⟩
theorem yHp {r : Rc} (h : rcP r) : got (rcF r) = some (rcW r) := by rw [yDC h]; exact kV (yDB h) (yIs h)
theorem rc_ne {r : Rc} (h : rcP r) : rcF r ≠ [] := by rw [yDC h]; exact yA3 (yDB h)
theorem yFS {r : Rc} (h : rcF r ≠ []) : rcP r := by
 by_cases e : rcP r
 ·exact e
 ·exact absurd (yIw e) h
def RG (s : List UInt8) : Option Rc := if s = [] ∨ rcF (yFU ((got s).getD Wr.z)) ≠ s then none else some (yFU ((got s).getD Wr.z))
theorem cK {s : List UInt8} {r : Rc} (h : RG s = some r) : s ≠ [] ∧ rcF r = s ∧ rcP r ∧ got s = some (rcW r) := by
 rw [RG] at h
 split at h
 ·cases h
 ·rename_i hn
  simp only [not_or, ne_eq, Decidable.not_not] at hn
  cases h
  have hp : rcP (yFU ((got s).getD Wr.z)) := yFS (by rw [hn.2]; exact hn.1)
  refine ⟨hn.1, hn.2, hp, ?_⟩
  have := yHp hp
  rwa [hn.2] at this
theorem yHa {r : Rc} (h : rcP r) : RG (rcF r) = some r := by
 rw [RG, yHp h, Option.getD_some, yFT, if_neg (by simp [rc_ne h])]
theorem RG_no {s : List UInt8} (h : got s = none) : RG s = none := by
 cases e : RG s with
 | none => rfl
 | some q => have := (cK e).2.2.2; rw [h] at this; cases this
theorem RG_no6 {s : List UInt8} {W : Wr} (h : got s = some W) (h6 : W.l.length ≠ 6) : RG s = none := by
 cases e : RG s with
 | none => rfl
 | some q => have := (cK e).2.2.2; rw [h] at this; cases this; exact absurd rfl h6
theorem RG_no2 {s : List UInt8} {W a b c d f g : Wr} (h : got s = some W) (hl : W.l = [a, b, c, d, f, g]) {i : Nat} (hi : i < f.l.length) (h2 : (f.l.getD i default).l.length ≠ 2) : RG s = none := by
 cases e : RG s with
 | none => rfl
 | some q =>
  have := (cK e).2.2.2
  rw [h] at this
  cases this
  have hl : [Wr.mk 1 q.seq [] [], .mk 2 0 q.prev [], .mk 1 q.kind [] [], .mk 1 q.dev [] [], .mk 3 0 [] (wpW q.wraps), .mk 2 0 q.tag []] = [a, b, c, d, f, g] := hl
  simp only [List.cons.injEq, and_true] at hl
  obtain ⟨_, _, _, _, rfl, _⟩ := hl
  rw [Wr.l_mk, jC] at hi
  rw [Wr.l_mk] at h2
  have e2 : (wpW q.wraps).getD i default = .mk 3 0 [] [.mk 1 (q.wraps[i]).dev [] [], .mk 2 0 (q.wraps[i]).box []] := by
   simp [wpW, List.getD_eq_getElem?_getD, List.getElem?_map, List.getElem?_eq_getElem hi]
  rw [e2] at h2
  exact absurd rfl h2
theorem yIr {s : List UInt8} {W : Wr} (h : got s = some W) : s ≠ [] := fun e => by rw [e, got_nil] at h; cases h
theorem RG_y {s : List UInt8} {W : Wr} (h : got s = some W) (h2 : rcF (yFU W) = s) : RG s = some (yFU W) := by rw [RG, h, Option.getD_some, if_neg (by simp [h2, yIr h])]
theorem RG_n {s : List UInt8} {W : Wr} (h : got s = some W) (h2 : rcF (yFU W) ≠ s) : RG s = none := by rw [RG, h, Option.getD_some, if_pos (.inr h2)]
theorem six_of {l : List Wr} (h : l.length = 6) : ∃ a b c d f g, l = [a, b, c, d, f, g] := by
 match l, h with
 | [a, b, c, d, f, g], _ => exact ⟨a, b, c, d, f, g, rfl⟩
theorem two_of {l : List Wr} (h : l.length = 2) : ∃ a b, l = [a, b] := by
 match l, h with
 | [a, b], _ => exact ⟨a, b, rfl⟩
theorem dJ {W a b c d f g : Wr} (hl : W.l = [a, b, c, d, f, g]) : yFU W = ⟨a.n, b.s, c.n, d.n, qE f.l, g.s⟩ := by simp [yFU, hl]
end Go.Proofs.Tryz

namespace Go.Proofs.Tryz
open Go Go.Ot
attribute [local simp] num bol txt w8 w16 w32 w64 lst cls xZ xR List.take_of_length_le
attribute [local irreducible] wpK wpS uE wH wV wN wZ xD Le rdS lpW rdW got tB mayW uW putW nb u64 qB mwB sha rcF hdF hsh RG qE
theorem eB (Γ : Gl) (r : Rc) (hl : r.wraps.length ≤ 9223372036854775807) : Go.Ot.Good Γ prog 141 [.agg [.t (num r.seq), .t (txt r.prev), .t (num r.kind), .t (num r.dev), .t (.sl r.wraps.length (r.wraps.flatMap wpT)), .t (txt r.tag)]] [] (.t (txt (rcF r))) [] [] := by
 refine yR F.mix func141 (by rfl) ntmps141 ?_
 refine yD (yA rfl ?_)
 iterate 2 refine yF ?_
 refine yE (yB (yC (yD (yD (yA rfl ?_)))))
 rcases Classical.em (rcP r) with hp | hp
 ·skip
  refine yF ?_
  refine yU [] false ((by have h := sO Γ r hl; rw [yFV hp] at h; exact h)) ?_
  refine yF ?_
  refine yE (yB (yC (yJ (yL (yC (yD (yA rfl ?_)))))))
  refine yF ?_
  refine yE (yB (yC (yD (yD (yA rfl ?_)))))
  have hwl := (sQ hp.2.2.2.2.2.2).1
  iterate 4 refine yF ?_
  refine yE (yB (yC (yH ?_)))
  refine xN (fun sl L (i : Nat) => ⟨setAll (setBad sl [0, 5, 6, 7, 8, 9, 13, 14, 15, 16, 17, 18, 19, 20, 21, 22, 23, 24, 25, 26, 27]) [(3, .msl (.n 9) 0 i 4), (12, .t (num i))], Go.Ot.look (vD (.n 9) (lH (wpW (r.wraps.take i))) L)⟩) (fun i => i ≤ r.wraps.length) (fun i => r.wraps.length - i) (0) (wF ?_) ?_ ?_
  ·refine wL [(.r 0 0 0, .r 0 0 0)] ?_ ?_ ?_ <;> simp [Wr.cellsL_len, wA, Wr.k_mk, Wr.n_mk, Wr.s_mk, Wr.l_mk, Wr.cellsL, Wr.z_eq, rcT, wpT, lH, wpW_nil]
  ·(first | omega | simp)
  ·intro i hi
   refine vE ?_
   refine yD (yA rfl ?_)
   refine yF ?_
   refine yE (yB (yC (yD ?_)))
   refine vL (fun hc1 => ?_) (fun hc1 => ?_)
   ·(try simp only [zB] at hc1)
    refine yL (yC (yD (yH (yD (yA rfl ?_)))))
    iterate 2 refine yF ?_
    obtain ⟨e, he⟩ : ∃ e, r.wraps.getD i default = e := ⟨_, rfl⟩
    simp only [he]
    iterate 2 refine yF ?_
    refine yE (yB (yC ?_))
    refine tD (.n 9) [3, 16] [] rfl ?_
    iterate 3 refine nK ?_
    refine vB [] [] [] false (uS Γ e.dev) ?_
    iterate 2 refine nK ?_
    refine vB [] [] [] false (pR Γ e.box) ?_
    refine nK ?_
    refine vB [] [.r 7 7 0] [] true (sY Γ [.mk 1 e.dev [] [], .mk 2 0 e.box []] (by simp [Wr.szL, Wr.sz])) ?_
    iterate 3 refine nK ?_
    refine kK ⟨yC4 (by kernel_rfl) (by kernel_rfl), ?_⟩
    refine yS (yC (yA rfl ?_))
    iterate 2 refine yF ?_
    refine yE (yB ?_)
    have hil : i < r.wraps.length := by omega
    have hnx := yA5 hil
    rw [he] at hnx
    refine xE (i + 1) (wF ?_) ?_ ?_
    ·refine wL [(.r 0 0 0, .r 0 0 0), (.n 9, .n 9)] ?_ ?_ ?_ <;> simp [Wr.cellsL_len, wA, Wr.k_mk, Wr.n_mk, Wr.s_mk, Wr.l_mk, Wr.cellsL, Wr.z_eq, rcT, wpT, lH, hnx, uZ, wC, Wr.cells]
    ·(first | omega | (simp_all <;> omega))
    ·(first | omega | (simp only []; omega))
   ·(try simp only [zB] at hc1)
    refine xQ (yM (yN (yK (yC (yD (yA rfl ?_))))))
    have hil : i = r.wraps.length := by omega
    subst hil
    simp only [List.take_length]
    iterate 2 refine yY ?_
    refine yZ [] false (uS Γ r.seq) ?_
    iterate 2 refine yY ?_
    refine yZ [] false (pR Γ r.prev) ?_
    iterate 2 refine yY ?_
    refine yZ [] false (uS Γ r.kind) ?_
    iterate 2 refine yY ?_
    refine yZ [] false (uS Γ r.dev) ?_
    refine yY ?_
    refine yZ [.n 9] true (sY Γ (wpW r.wraps) (by rw [szL_wpW]; omega)) ?_ (hv := by (simp (disch := first | omega | (simp only [zL] <;> omega) | fail) [-List.map_map, -List.map_drop, -List.map_take, VwL_cons, xM, xY, vN, xV, xW, xU, Vw_agg, xS, xX, xA, VwL_refl_map, yX, xK, xL, wK, xJ, yW, xC, yV, VwTs_app, List.take_of_length_le, srcL, notIn, ObsVw, SrcOk, pOk, Go.Ot.look, resP, resN, ev, evc, mkS, push_cast, List.take_of_length_le, eN, jC] <;> (try omega)))
    iterate 2 refine yY ?_
    refine yZ [] false (pR Γ r.tag) ?_
    refine yY ?_
    refine yZ [.r 9 17 0] true (sY Γ [.mk 1 r.seq [] [], .mk 2 0 r.prev [], .mk 1 r.kind [] [], .mk 1 r.dev [] [], .mk 3 0 [] (wpW r.wraps), .mk 2 0 r.tag []] (by simp [Wr.szL, Wr.sz, szL_wpW]; omega)) ?_
    refine yZ [] false (cL Γ (.mk 3 0 [] [.mk 1 r.seq [] [], .mk 2 0 r.prev [], .mk 1 r.kind [] [], .mk 1 r.dev [] [], .mk 3 0 [] (wpW r.wraps), .mk 2 0 r.tag []]) (fun _ => Nat.le_trans (show (putW 6 (rcW r)).length ≤ 2000 from dI hp) (by omega))) ?_
    refine yY ?_
    refine yE (xO (by kernel_rfl) (yC (yO ?_)))
    refine ⟨.inr rfl, yP [] (by rw [results141]) ?_ ?_ ?_⟩ <;> simp [rcT, wpT, yDC hp, rcW]
 ·skip
  refine yF ?_
  refine yU [] false ((by have h := sO Γ r hl; rw [gZ hp] at h; exact h)) ?_
  refine yF ?_
  refine yE (yB (yC (xF (yD (yA rfl ?_)))))
  refine yF ?_
  refine yE (yB (yC (yO (yG ?_))))
  refine ⟨.inr rfl, yP [] (by rw [results141]) ?_ ?_ ?_⟩ <;> simp [rcT, wpT, yIw hp]
theorem yEm (Γ : Gl) (r : Rc) (hl : r.wraps.length ≤ 9223372036854775807) : Go.Ot.Good Γ prog 161 [.agg [.t (num r.seq), .t (txt r.prev), .t (num r.kind), .t (num r.dev), .t (.sl r.wraps.length (r.wraps.flatMap wpT)), .t (txt r.tag)]] [] (.t (txt (hsh r))) [] [] := by
 have hrl := nQ r
 refine yR F.mix func161 (by rfl) ntmps161 ?_
 refine yD (yA rfl ?_)
 iterate 2 refine yF ?_
 refine yE (yB (yC (yD (yA rfl ?_))))
 refine yF ?_
 refine yU [] false (eB Γ r hl) ?_
 refine yF ?_
 refine yU [.r 1 2 0] false (yFx Γ [rcF r] (by simp) (by simp; omega)) ?_
 refine yF ?_
 refine yE (yB (yC (yO ?_)))
 refine ⟨.inr rfl, yP [] (by rw [results161]) ?_ ?_ ?_⟩ <;> simp [rcT, wpT, hsh, List.flatten_cons, List.flatten_nil, List.append_nil]
theorem yId (Γ : Gl) (hE : EG Γ) (s : List UInt8) (hs : s.length ≤ 1000000) (hg : got s = none) : Go.Ot.Good Γ prog 112 [.t (txt s)] [] (.tup [.agg [.t (num 0), .t (txt []), .t (num 0), .t (num 0), .t (.v (.slice none 0 0)), .t (txt [])], .t (bol false)]) [] [] := by
 refine yR F.mix func112 (by rfl) ntmps112 ?_
 refine yD (yA rfl ?_)
 iterate 2 refine yF ?_
 refine yE (yB (yC (yD (yA rfl ?_))))
 refine yF ?_
 refine yU [] true ((by have h := qX Γ hE (s) (hs); rw [hg, Option.getD_none, Option.isSome_none] at h; exact h)) ?_
 iterate 6 refine yF ?_
 refine yE (yB (yC (yD (yD (yA rfl ?_)))))
 iterate 3 refine yF ?_
 iterate 4 refine wJ ?_
 refine yF ?_
 refine yE (yB (yC (xF (yD (yA rfl ?_)))))
 iterate 3 refine yF ?_
 refine yE (yB (yC (yO (yG ?_))))
 refine ⟨.inr rfl, yP [] (by rw [results112]) ?_ ?_ ?_⟩ <;> simp [rcT, wpT]
theorem yFP (Γ : Gl) (hE : EG Γ) (s : List UInt8) (hs : s.length ≤ 1000000) (W : Wr) (hg : got s = some W) (h6 : W.l.length ≠ 6) : Go.Ot.Good Γ prog 112 [.t (txt s)] [] (.tup [.agg [.t (num 0), .t (txt []), .t (num 0), .t (num 0), .t (.v (.slice none 0 0)), .t (txt [])], .t (bol false)]) [] [] := by
 have h6' : ¬ ((W.l.length : Int) = 6) := by omega
 refine yR F.mix func112 (by rfl) ntmps112 ?_
 refine yD (yA rfl ?_)
 iterate 2 refine yF ?_
 refine yE (yB (yC (yD (yA rfl ?_))))
 refine yF ?_
 refine yU [] true ((by have h := qX Γ hE (s) (hs); rw [hg, Option.getD_some, Option.isSome_some] at h; exact h)) ?_
 iterate 6 refine yF ?_
 refine yE (yB (yC (yD (yD (yA rfl ?_)))))
 iterate 3 refine yF ?_
 iterate 3 refine xB ?_
 refine xB (hs := by (simp (disch := first | omega | (simp only [zL] <;> omega) | (simp only [push_cast] <;> omega) | fail) only [push_cast, reduceCtorEq, Nat.reduceAdd, Nat.reduceSub, Nat.reduceMul, Nat.reduceEqDiff, Nat.reduceLT, Nat.reduceLeDiff, Nat.reduceMod, Nat.reduceDiv, Int.reduceLE, Int.reduceLT, Int.reduceEq, Int.reduceToNat, Int.reduceAdd, Int.reduceSub, Int.reduceMul, Int.reduceNeg, h6'] <;> rfl)) ?_
 refine yF ?_
 refine yE (yB (yC (xF (yD (yA rfl ?_)))))
 iterate 3 refine yF ?_
 refine yE (yB (yC (yO (yG ?_))))
 refine ⟨.inr rfl, yP [] (by rw [results112]) ?_ ?_ ?_⟩ <;> simp [rcT, wpT]
theorem yFO (Γ : Gl) (hE : EG Γ) (s : List UInt8) (hs : s.length ≤ 1000000) (W a b c d f g : Wr) (hg : got s = some W) (hl : W.l = [a, b, c, d, f, g]) (hf : f.l.length ≤ 1000000) : Go.Ot.Good Γ prog 112 [.t (txt s)] [] ((match RG s with | some r => .tup [.agg [.t (num r.seq), .t (txt r.prev), .t (num r.kind), .t (num r.dev), .t (.sl r.wraps.length (r.wraps.flatMap wpT)), .t (txt r.tag)], .t (bol true)] | none => .tup [.agg [.t (num 0), .t (txt []), .t (num 0), .t (num 0), .t (.v (.slice none 0 0)), .t (txt [])], .t (bol false)])) [] [] := by
 obtain ⟨wk, wn, ws, wl, rfl⟩ : ∃ k n s l, W = .mk k n s l := ⟨W.k, W.n, W.s, W.l, by cases W; rfl⟩
 have hl0 := hl
 rw [Wr.l_mk] at hl0
 subst hl0
 refine yR F.mix func112 (by rfl) ntmps112 ?_
 refine yD (yA rfl ?_)
 iterate 2 refine yF ?_
 refine yE (yB (yC (yD (yA rfl ?_))))
 refine yF ?_
 refine yU [] true ((by have h := qX Γ hE s hs; rw [hg, Option.getD_some, Option.isSome_some] at h; exact h)) ?_
 iterate 6 refine yF ?_
 refine yE (yB (yC (yD (yD (yA rfl ?_)))))
 iterate 3 refine yF ?_
 iterate 4 refine xB ?_
 refine yF ?_
 refine yE (yB (yC (yJ (yL (yC (yD (yA rfl ?_)))))))
 iterate 3 refine yF ?_
 refine yE (yB (yC (yD (yA rfl ?_))))
 iterate 23 refine yY ?_
 refine yE (xO (by kernel_rfl) (yC (yD (yD (yA rfl ?_)))))
 iterate 6 refine yF ?_
 refine yE (yB (yC (yH ?_)))
 refine xN (fun sl L (i : Nat) => ⟨setAll (setBad sl [3, 4, 5, 6, 9, 10, 11, 12, 13, 14, 15, 16, 17, 18, 19, 20, 21, 22, 23, 24, 25, 26, 27, 28, 29, 30, 31, 32, 33, 34, 35, 36, 37, 38, 39, 40, 41, 42, 43, 44, 45, 46, 47, 48, 49, 53, 54, 55, 56, 57, 58, 59, 60, 61, 62, 63, 64, 65, 66, 67, 68, 69, 70, 71, 72, 73, 74, 75, 76, 77]) [(52, .t (num i))], Go.Ot.look (vD (.r 5 21 0) (xR 39 [.t (num a.n), .t (txt b.s), .t (num c.n), .t (num d.n), .msl (.n 9) 0 i 2, .t (txt g.s)]) (vD (.n 9) (uG (qE (f.l.take i))) L))⟩) (fun i => i ≤ f.l.length) (fun i => f.l.length - i) (0) (wF ?_) ?_ ?_
 ·refine wL [(.r 0 0 0, .r 0 0 0), (.r 1 5 0, .r 1 5 0), (.r 5 21 0, .r 5 21 0)] ?_ ?_ ?_ <;> simp [rcT, wpT, vX, uG, wpsOf_nil, List.take_zero]
 ·(first | omega | simp)
 ·intro i hi
  refine vE ?_
  refine yD (yA rfl ?_)
  refine yF ?_
  refine yE (yB (yC (yD ?_)))
  refine vL (fun hc1 => ?_) (fun hc1 => ?_)
  ·(try simp only [zB] at hc1)
   refine yL (yC (yD (yH (yD (yA rfl ?_)))))
   refine yF ?_
   refine yF (hc := by (rw [List.length_drop, Wr.cellsL_len]; omega)) ?_
   obtain ⟨x, hx⟩ : ∃ x, f.l.getD i default = x := ⟨_, rfl⟩
   simp only [hx]
   iterate 2 refine yF ?_
   refine yE (yB (yC (yD (yD (yA rfl ?_)))))
   iterate 4 refine yF ?_
   refine yE (yB (yC ?_))
   refine vL (fun hc2 => ?_) (fun hc2 => ?_)
   ·(try simp only [zB] at hc2)
    have hq := RG_no2 hg hl (i := i) (by omega) (by rw [show f.l.getD i default = x from hx]; omega)
    refine yD (yA rfl ?_)
    iterate 3 refine yF ?_
    refine yE (yB (yC (yO (yG (yI (yG (wI (yI (yG ?_)))))))))
    refine ⟨.inr rfl, yP [] (by rw [results112]) ?_ ?_ ?_⟩ <;> simp [rcT, wpT, vX, hq, qD, -List.length_flatMap, uA, vX]
   ·(try simp only [zB] at hc2)
    obtain ⟨u, v, hx2⟩ := two_of (show x.l.length = 2 by omega)
    simp only [hx2]
    refine yL (yC ?_)
    refine tD (.n 9) [62] [.r 5 21 0] rfl ?_
    iterate 17 refine nK ?_
    refine kK ⟨yC4 (by kernel_rfl) (by kernel_rfl), ?_⟩
    refine yS (yC (yA rfl ?_))
    iterate 2 refine yF ?_
    refine yE (yB ?_)
    have hil : i < f.l.length := by omega
    have hnx := yCa hil
    rw [show f.l.getD i default = x from hx, yFo hx2] at hnx
    refine xE (i + 1) (wF ?_) ?_ ?_
    ·refine wL [(.r 0 0 0, .r 0 0 0), (.r 1 5 0, .r 1 5 0), (.r 5 21 0, .r 5 21 0), (.n 9, .n 9)] ?_ ?_ ?_ <;> simp [rcT, wpT, vX, uG, hnx, List.flatMap_append, wpT]
    ·(first | omega | (simp_all <;> omega))
    ·(first | omega | (simp only []; omega))
  ·(try simp only [zB] at hc1)
   refine xQ (yM (yN (yK (yC (yD (yD (yA rfl ?_)))))))
   have hil : i = f.l.length := by omega
   subst hil
   simp only [List.take_length]
   refine yF ?_
   refine yU [.n 9] false (eB Γ (⟨a.n, b.s, c.n, d.n, qE f.l, g.s⟩ : Rc) (by show (qE f.l).length ≤ _; rw [vX]; omega)) ?_ (hv := by (simp (disch := first | omega | (simp only [zL] <;> omega) | fail) [-List.map_map, -List.map_drop, -List.map_take, VwL_cons, xM, xY, vN, xV, xW, xU, Vw_agg, xS, xX, xA, VwL_refl_map, yX, xK, xL, wK, xJ, yW, xC, yV, VwTs_app, List.take_of_length_le, srcL, notIn, ObsVw, SrcOk, pOk, Go.Ot.look, resP, resN, ev, evc, mkS, push_cast, List.take_of_length_le, vX, qD, -List.length_flatMap] <;> (try omega)))
   iterate 2 refine yF ?_
   refine yE (yB (yC ?_))
   refine vL (fun hc3 => ?_) (fun hc3 => ?_)
   ·(try simp only [zB] at hc3)
    have hq := RG_n hg (by rw [dJ hl]; simpa using hc3)
    refine yD (yA rfl ?_)
    iterate 3 refine yF ?_
    refine yE (yB (yC (yO (yG ?_))))
    refine ⟨.inr rfl, yP [] (by rw [results112]) ?_ ?_ ?_⟩ <;> simp [rcT, wpT, vX, hq, qD, -List.length_flatMap, uA, vX]
   ·(try simp only [zB] at hc3)
    have hq := RG_y hg (by rw [dJ hl]; simpa using hc3)
    rw [dJ hl] at hq
    refine yL (yC (yD (yA rfl ?_)))
    iterate 3 refine yF ?_
    refine yE (yB (yC (yO ?_)))
    refine ⟨.inr rfl, yP [] (by rw [results112]) ?_ ?_ ?_⟩ <;> simp [rcT, wpT, vX, hq, qD, -List.length_flatMap, uA, vX]
end Go.Proofs.Tryz

namespace Go.Proofs.Tryz
open Go Go.Ot
theorem bS (Γ : Gl) (hE : EG Γ) (s : List UInt8) (hs : s.length ≤ 1000000) : Go.Ot.Good Γ prog 112 [.t (txt s)] [] (match RG s with | some r => .tup [.agg [.t (num r.seq), .t (txt r.prev), .t (num r.kind), .t (num r.dev), .t (.sl r.wraps.length (r.wraps.flatMap wpT)), .t (txt r.tag)], .t (bol true)] | none => .tup [.agg [.t (num 0), .t (txt []), .t (num 0), .t (num 0), .t (.v (.slice none 0 0)), .t (txt [])], .t (bol false)]) [] [] := by
 rcases hg : got s with _ | W
 ·rw [RG_no hg]; exact yId Γ hE s hs hg
 ·by_cases h6 : W.l.length = 6
  ·obtain ⟨a, b, c, d, f, g, hl⟩ := six_of h6
   refine yFO Γ hE s hs W a b c d f g hg hl ?_
   have h1 := eA hg 4
   have h2 := tsz_len (wTs (part W 4).l)
   have e : part W 4 = f := by rw [part, hl]; rfl
   rw [e, qG] at h2
   rw [e] at h1
   omega
  ·rw [RG_no6 hg h6]; exact yFP Γ hE s hs W hg h6
@[simp] theorem Vw_ropp {src : Nm → Option Nm} {hp : Nm → Option Ob} {len : Nm → Prop} {cs : List T} {m : Nm} {off : Nat} : Vw src hp len (.rop cs) (.ptr m off) ↔ len m ∧ ∃ ob, hp m = some ob ∧ VwTs hp len cs ((ob.cells.drop off).take cs.length) := by
 constructor
 ·rintro (h | ⟨m', off', ob, h, h1, h2, h3⟩)
  ·cases h
  ·cases h; exact ⟨h1, ob, h2, h3⟩
 ·rintro ⟨h1, ob, h2, h3⟩; exact .inr ⟨m, off, ob, rfl, h1, h2, h3⟩
def fl (l : List Int) (d : Int) : List Int := l.filter (fun x => decide (x ≠ d))
def inF (log : List Rc) : Nat → List Int
 | 0 => []
 | i + 1 => if (log.getD i default).kind = 1 then inF log i ++ [(log.getD i default).dev] else fl (inF log i) (log.getD i default).dev
theorem inF_0 (log : List Rc) : inF log 0 = [] := rfl
theorem pI {log : List Rc} {i : Nat} (h : (log.getD i default).kind = 1) : inF log (i + 1) = inF log i ++ [(log.getD i default).dev] := if_pos h
theorem hC {log : List Rc} {i : Nat} (h : (log.getD i default).kind ≠ 1) : inF log (i + 1) = fl (inF log i) (log.getD i default).dev := if_neg h
theorem yEh (log : List Rc) : ∀ i, (inF log i).length ≤ i
 | 0 => Nat.le_refl _
 | i + 1 => by
  have ih := yEh log i
  rw [inF]
  split
  ·simp; omega
  ·exact Nat.le_trans (List.length_filter_le _ _) (by omega)
def vG (log : List Rc) : Nat → List UInt8
 | 0 => []
 | k + 1 => hsh (log.getD k default)
def chC (log : List Rc) (l : List Int) (i : Nat) : Nat :=
 if ¬ rcP (log.getD i default) then 1 else if ¬ ((log.getD i default).seq = i + 1 ∧ (log.getD i default).prev = vG log i) then 2
 else if (i = 0 ∧ ((log.getD i default).kind ≠ 1 ∨ (log.getD i default).dev ≠ 0)) ∨ ((log.getD i default).kind = 2 ∧ (log.getD i default).dev = 0) ∨ l.contains (log.getD i default).dev ≠ decide ((log.getD i default).kind = 2) then 3 else 0
theorem yGV {log : List Rc} {l : List Int} {i : Nat} {r : Rc} (hr : log.getD i default = r) (h : ¬ rcP r) : chC log l i = 1 := by rw [chC, hr, if_pos h]
theorem yCS {log : List Rc} {l : List Int} {i : Nat} {r : Rc} (hr : log.getD i default = r) (h : rcP r) (h2 : ¬ (r.seq = i + 1 ∧ r.prev = vG log i)) : chC log l i = 2 := by rw [chC, hr, if_neg (fun hn => hn h), if_pos h2]
theorem mY {log : List Rc} {l : List Int} {i : Nat} {r : Rc} (hr : log.getD i default = r) (h : rcP r) (h2 : r.seq = i + 1 ∧ r.prev = vG log i) (h3 : (i = 0 ∧ (r.kind ≠ 1 ∨ r.dev ≠ 0)) ∨ (r.kind = 2 ∧ r.dev = 0) ∨ l.contains r.dev ≠ decide (r.kind = 2)) : chC log l i = 3 := by rw [chC, hr, if_neg (fun hn => hn h), if_neg (fun hn => hn h2), if_pos h3]
theorem yCT {log : List Rc} {l : List Int} {i : Nat} {r : Rc} (hr : log.getD i default = r) (h : rcP r) (h2 : r.seq = i + 1 ∧ r.prev = vG log i) (h3 : ¬ ((i = 0 ∧ (r.kind ≠ 1 ∨ r.dev ≠ 0)) ∨ (r.kind = 2 ∧ r.dev = 0) ∨ l.contains r.dev ≠ decide (r.kind = 2))) : chC log l i = 0 := by rw [chC, hr, if_neg (fun hn => hn h), if_neg (fun hn => hn h2), if_neg h3]
theorem kD {log : List Rc} {l : List Int} {i : Nat} (h : chC log l i = 0) : rcP (log.getD i default) ∧ ((log.getD i default).seq = i + 1 ∧ (log.getD i default).prev = vG log i) ∧ ¬ ((i = 0 ∧ ((log.getD i default).kind ≠ 1 ∨ (log.getD i default).dev ≠ 0)) ∨ ((log.getD i default).kind = 2 ∧ (log.getD i default).dev = 0) ∨ l.contains (log.getD i default).dev ≠ decide ((log.getD i default).kind = 2)) := by
 by_cases h1 : rcP (log.getD i default)
 ·by_cases h2 : (log.getD i default).seq = i + 1 ∧ (log.getD i default).prev = vG log i
  ·refine ⟨h1, h2, fun h3 => ?_⟩
   rw [mY rfl h1 h2 h3] at h; omega
  ·rw [yCS rfl h1 h2] at h; omega
 ·rw [yGV rfl h1] at h; omega
theorem yEZ (log : List Rc) (l : List Int) (i : Nat) : chC log l i = 0 ∨ chC log l i = 1 ∨ chC log l i = 2 ∨ chC log l i = 3 := by
 by_cases h1 : rcP (log.getD i default)
 ·by_cases h2 : (log.getD i default).seq = i + 1 ∧ (log.getD i default).prev = vG log i
  ·by_cases h3 : (i = 0 ∧ ((log.getD i default).kind ≠ 1 ∨ (log.getD i default).dev ≠ 0)) ∨ ((log.getD i default).kind = 2 ∧ (log.getD i default).dev = 0) ∨ l.contains (log.getD i default).dev ≠ decide ((log.getD i default).kind = 2)
   ·exact .inr (.inr (.inr (mY rfl h1 h2 h3)))
   ·exact .inl (yCT rfl h1 h2 h3)
  ·exact .inr (.inr (.inl (yCS rfl h1 h2)))
 ·exact .inr (.inl (yGV rfl h1))
def lkT (i : Int) : Nat → T
 | 0 => .v .nilIface
 | 1 => .ifc 232 (.agg [num i, .ifc 209 (txt [110, 111, 32, 114, 101, 99, 111, 114, 100])])
 | 2 => .ifc 232 (.agg [num i, .ifc 209 (txt [97, 110, 111, 116, 104, 101, 114, 32, 114, 101, 99, 111, 114, 100, 32, 97, 104, 101, 97, 100])])
 | _ => .ifc 232 (.agg [num i, .ifc 209 (txt [97, 32, 109, 101, 109, 98, 101, 114, 32, 116, 104, 97, 116, 32, 105, 115, 32, 110, 111, 110, 101, 44, 32, 111, 114, 32, 110, 111, 110, 101, 32, 116, 104, 97, 116, 32, 105, 115, 32, 111, 110, 101])])
@[push_cast] theorem sD (i : Int) : lkT i 0 = .v .nilIface := rfl
@[push_cast] theorem sC (i : Int) : lkT i 1 = .ifc 232 (.agg [num i, .ifc 209 (txt [110, 111, 32, 114, 101, 99, 111, 114, 100])]) := rfl
@[push_cast] theorem sB (i : Int) : lkT i 2 = .ifc 232 (.agg [num i, .ifc 209 (txt [97, 110, 111, 116, 104, 101, 114, 32, 114, 101, 99, 111, 114, 100, 32, 97, 104, 101, 97, 100])]) := rfl
@[push_cast] theorem sA (i : Int) : lkT i 3 = .ifc 232 (.agg [num i, .ifc 209 (txt [97, 32, 109, 101, 109, 98, 101, 114, 32, 116, 104, 97, 116, 32, 105, 115, 32, 110, 111, 110, 101, 44, 32, 111, 114, 32, 110, 111, 110, 101, 32, 116, 104, 97, 116, 32, 105, 115, 32, 111, 110, 101])]) := rfl
def ckB (log : List Rc) : Bool := decide (log.length ≤ 40) && (List.range log.length).all fun i => chC log (inF log i) i == 0
theorem yGU {log : List Rc} (h : 40 < log.length) : ckB log = false := by rw [ckB, decide_eq_false (by omega)]; rfl
theorem yET {log : List Rc} {i : Nat} (hi : i < log.length) (h : chC log (inF log i) i ≠ 0) : ckB log = false := by
 rcases e : ckB log with _ | _
 ·rfl
 ·rw [ckB, Bool.and_eq_true, List.all_eq_true] at e
  have := e.2 i (List.mem_range.2 hi)
  exact absurd (by simpa using this) h
theorem yAX {log : List Rc} (h40 : log.length ≤ 40) (h : ∀ i, i < log.length → chC log (inF log i) i = 0) : ckB log = true := by
 rw [ckB, Bool.and_eq_true, List.all_eq_true]
 exact ⟨decide_eq_true h40, fun i hi => by simpa using h i (List.mem_range.1 hi)⟩
theorem uJ {log : List Rc} (h : ckB log = true) : log.length ≤ 40 ∧ ∀ i, i < log.length → chC log (inF log i) i = 0 := by
 rw [ckB, Bool.and_eq_true, List.all_eq_true] at h
 exact ⟨of_decide_eq_true h.1, fun i hi => by simpa using h.2 i (List.mem_range.2 hi)⟩
theorem dY (l : List Int) (d : Int) {j : Nat} (h : j < l.length) : fl (l.take (j + 1)) d = if l.getD j 0 ≠ d then fl (l.take j) d ++ [l.getD j 0] else fl (l.take j) d := by
 have e : l.getD j 0 = l[j] := by simp [List.getD_eq_getElem?_getD, List.getElem?_eq_getElem h]
 rw [List.take_add_one, List.getElem?_eq_getElem h, fl, List.filter_append, e]
 by_cases hd : l[j] = d <;> simp [fl, hd]
theorem yEA {l : List Int} {d : Int} {k : Nat} (hb : ∀ j, j < k → l.getD j 0 ≠ d) : ∀ i, i ≤ k → i ≤ l.length → fl (l.take i) d = l.take i
 | 0, _, _ => by simp [fl]
 | i + 1, h, hl => by
  rw [dY l d (by omega), if_pos (hb i (by omega)), yEA hb i (by omega) (by omega), List.take_add_one, List.getElem?_eq_getElem (by omega)]
  simp [List.getD_eq_getElem?_getD, List.getElem?_eq_getElem (show i < l.length by omega)]
theorem yDu {F G l : List Int} {j : Nat} (h : F.length + G.length = j) (hj : j < l.length) : (F ++ G ++ l.drop j).getD j 0 = l.getD j 0 := by
 rw [List.getD_eq_getElem?_getD, List.getElem?_append_right (by simp; omega), List.length_append, h, Nat.sub_self, List.getElem?_drop]
 simp [List.getD_eq_getElem?_getD]
theorem yBp {F G l : List Int} {j : Nat} {g : Int} (hj : j < l.length) : (F ++ (g :: G) ++ l.drop j).set F.length (l.getD j 0) = F ++ [l.getD j 0] ++ (G ++ [l.getD j 0]) ++ l.drop (j + 1) := by
 have e : l.getD j 0 = l[j] := by simp [List.getD_eq_getElem?_getD, List.getElem?_eq_getElem hj]
 rw [e, List.drop_eq_getElem_cons hj]
 simp
theorem row_drop {F G l : List Int} {j : Nat} (hj : j < l.length) : F ++ G ++ l.drop j = F ++ (G ++ [l.getD j 0]) ++ l.drop (j + 1) := by
 have e : l.getD j 0 = l[j] := by simp [List.getD_eq_getElem?_getD, List.getElem?_eq_getElem hj]
 rw [e, List.drop_eq_getElem_cons hj]
 simp
theorem row_one {l : List Int} {k : Nat} (hk : k < l.length) : l.take k ++ [l.getD k 0] ++ l.drop (k + 1) = l := by
 have e : l.getD k 0 = l[k] := by simp [List.getD_eq_getElem?_getD, List.getElem?_eq_getElem hk]
 rw [e, List.append_assoc, List.singleton_append, ← List.drop_eq_getElem_cons hk, List.take_append_drop]
theorem bQ (F G : List Int) : setAt ((F.map num).map D.t ++ (G.map num).map D.t) F.length (((List.replicate G.length (0 : Int)).map num).map D.t) = (F.map num).map D.t ++ ((List.replicate G.length (0 : Int)).map num).map D.t := by
 have := setAt_all (cs := (G.map num).map D.t) (ds := ((List.replicate G.length (0 : Int)).map num).map D.t) (pre := (F.map num).map D.t) (by simp)
 simpa using this
theorem fT (F G : List Int) : List.take F.length ((F.map num).map D.t ++ ((List.replicate G.length (0 : Int)).map num).map D.t) = (F.map num).map D.t := by
 rw [List.take_append_of_le_length (by simp), List.take_of_length_le (by simp)]
end Go.Proofs.Tryz

namespace Go.Proofs.Tryz
open Go Go.Ot
attribute [local simp] num bol txt w8 w16 w32 w64 lst cls xZ xR List.take_of_length_le
attribute [local irreducible] wpK wpS uE wH wV wN wZ xD Le rcF hsh inF fl
theorem idx_no (Γ : Gl) (l : List Int) (x : Int) (hl : l.length ≤ 1000000) (h : ∀ j, j < l.length → l.getD j 0 ≠ x) : Go.Ot.Good Γ prog 170 [.t (lst num l), .t (num x)] [] (.t (num (-1))) [] [] := by
 refine yR F.mix func170 (by rfl) ntmps170 ?_
 refine yD (yA rfl ?_)
 refine yF ?_
 refine yE (yB (yC (yD (yD (yA rfl ?_)))))
 iterate 3 refine yF ?_
 refine yE (yB (yC (yH ?_)))
 refine xN (fun sl L (i : Nat) => ⟨setAll (setBad sl [4, 5, 6, 9, 10, 11, 12, 13, 14, 15, 16, 17, 18]) [(8, .t (num i))], Go.Ot.look (L)⟩) (fun i => i ≤ l.length) (fun i => l.length - i) (0) (wF ?_) ?_ ?_
 ·refine yT ?_ ?_ ?_ <;> simp
 ·(first | omega | simp)
 ·intro i hi
  refine vE ?_
  refine yD (yA rfl ?_)
  refine yF ?_
  refine yE (yB (yC (yD ?_)))
  refine vL (fun hc0 => ?_) (fun hc0 => ?_)
  ·(try simp only [zB] at hc0)
   refine yL (yC (yD (yH (yD (yA rfl ?_)))))
   iterate 2 refine yF ?_
   refine yE (yB (yC (yD (yA rfl ?_))))
   iterate 5 refine yF ?_
   have hx := h i (by omega)
   obtain ⟨v, hv⟩ : ∃ v, l.getD i 0 = v := ⟨_, rfl⟩
   simp only [hv]
   rw [hv] at hx
   have hx2 : ¬ x = v := fun e => hx e.symm
   refine yF (hs := by (simp (disch := first | omega | (simp only [zL] <;> omega) | (simp only [push_cast] <;> omega) | fail) only [push_cast, reduceCtorEq, Nat.reduceAdd, Nat.reduceSub, Nat.reduceMul, Nat.reduceEqDiff, Nat.reduceLT, Nat.reduceLeDiff, Nat.reduceMod, Nat.reduceDiv, Int.reduceLE, Int.reduceLT, Int.reduceEq, Int.reduceToNat, Int.reduceAdd, Int.reduceSub, Int.reduceMul, Int.reduceNeg, hx2] <;> rfl)) ?_
   refine yE (yB (yC (yJ (yL (yS (yC (yA rfl ?_)))))))
   iterate 2 refine yF ?_
   refine yE (yB ?_)
   refine xE (i + 1) (wF ?_) ?_ ?_
   ·refine yT ?_ ?_ ?_ <;> simp
   ·(first | omega | (simp_all <;> omega))
   ·(first | omega | (simp only []; omega))
  ·(try simp only [zB] at hc0)
   refine xQ (yM (yN (yK (yC (yD (yA rfl ?_))))))
   refine yF ?_
   refine yE (yB (yC (yO ?_)))
   refine ⟨.inr rfl, yP [] (by rw [results170]) ?_ ?_ ?_⟩ <;> simp
theorem yIT (Γ : Gl) (l : List Int) (x : Int) (k : Nat) (hl : l.length ≤ 1000000) (hk : k < l.length) (hx : l.getD k 0 = x) (hb : ∀ j, j < k → l.getD j 0 ≠ x) : Go.Ot.Good Γ prog 170 [.t (lst num l), .t (num x)] [] (.t (num k)) [] [] := by
 refine yR F.mix func170 (by rfl) ntmps170 ?_
 refine yD (yA rfl ?_)
 refine yF ?_
 refine yE (yB (yC (yD (yD (yA rfl ?_)))))
 iterate 3 refine yF ?_
 refine yE (yB (yC (yH ?_)))
 refine xN (fun sl L (i : Nat) => ⟨setAll (setBad sl [4, 5, 6, 9, 10, 11, 12, 13, 14, 15, 16, 17, 18]) [(8, .t (num i))], Go.Ot.look (L)⟩) (fun i => i ≤ k) (fun i => k - i) (0) (wF ?_) ?_ ?_
 ·refine yT ?_ ?_ ?_ <;> simp
 ·(first | omega | simp)
 ·intro i hi
  refine vE ?_
  refine yD (yA rfl ?_)
  refine yF ?_
  refine yE (yB (yC (yD (xF (yL (yC (yD (yH (yD (yA rfl ?_))))))))))
  iterate 2 refine yF ?_
  refine yE (yB (yC (yD (yA rfl ?_))))
  rcases (show i = k ∨ i < k by omega) with rfl | hik
  ·skip
   iterate 5 refine yF ?_
   simp only [hx]
   refine yF ?_
   refine yE (yB (yC (xF (yD (yA rfl ?_)))))
   iterate 2 refine yF ?_
   refine yE (yB (yC (yO (yI (yG (wI (yI (yG ?_))))))))
   refine ⟨.inr rfl, yP [] (by rw [results170]) ?_ ?_ ?_⟩ <;> simp
  ·skip
   iterate 5 refine yF ?_
   have hx1 := hb i (by omega)
   obtain ⟨v, hv⟩ : ∃ v, l.getD i 0 = v := ⟨_, rfl⟩
   simp only [hv]
   rw [hv] at hx1
   have hx2 : ¬ x = v := fun e => hx1 e.symm
   refine yF (hs := by (simp (disch := first | omega | (simp only [zL] <;> omega) | (simp only [push_cast] <;> omega) | fail) only [push_cast, reduceCtorEq, Nat.reduceAdd, Nat.reduceSub, Nat.reduceMul, Nat.reduceEqDiff, Nat.reduceLT, Nat.reduceLeDiff, Nat.reduceMod, Nat.reduceDiv, Int.reduceLE, Int.reduceLT, Int.reduceEq, Int.reduceToNat, Int.reduceAdd, Int.reduceSub, Int.reduceMul, Int.reduceNeg, hx2] <;> rfl)) ?_
   refine yE (yB (yC (yJ (yL (yS (yC (yA rfl ?_)))))))
   iterate 2 refine yF ?_
   refine yE (yB ?_)
   refine xE (i + 1) (wF ?_) ?_ ?_
   ·refine yT ?_ ?_ ?_ <;> simp
   ·(first | omega | (simp_all <;> omega))
   ·omega
theorem cnt_no (Γ : Gl) (l : List Int) (x : Int) (hl : l.length ≤ 1000000) (h : ∀ j, j < l.length → l.getD j 0 ≠ x) : Go.Ot.Good Γ prog 162 [.t (lst num l), .t (num x)] [] (.t (bol false)) [] [] := by
 refine yR F.mix func162 (by rfl) ntmps162 ?_
 refine yD (yA rfl ?_)
 refine yF ?_
 refine yE (yB (yC (yD (yA rfl ?_))))
 iterate 2 refine yF ?_
 refine yU [] false (idx_no Γ l x hl h) ?_
 iterate 2 refine yF ?_
 refine yE (yB (yC (yO ?_)))
 refine ⟨.inr rfl, yP [] (by rw [results162]) ?_ ?_ ?_⟩ <;> simp
theorem yJg (Γ : Gl) (l : List Int) (x : Int) (k : Nat) (hl : l.length ≤ 1000000) (hk : k < l.length) (hx : l.getD k 0 = x) (hb : ∀ j, j < k → l.getD j 0 ≠ x) : Go.Ot.Good Γ prog 162 [.t (lst num l), .t (num x)] [] (.t (bol true)) [] [] := by
 refine yR F.mix func162 (by rfl) ntmps162 ?_
 refine yD (yA rfl ?_)
 refine yF ?_
 refine yE (yB (yC (yD (yA rfl ?_))))
 iterate 2 refine yF ?_
 refine yU [] false (yIT Γ l x k hl hk hx hb) ?_
 iterate 2 refine yF ?_
 refine yE (yB (yC (yO ?_)))
 refine ⟨.inr rfl, yP [] (by rw [results162]) ?_ ?_ ?_⟩ <;> simp
theorem dP {p : Nat → Prop} (h : ∃ k, p k) : ∃ k, p k ∧ ∀ j, j < k → ¬ p j := by
 obtain ⟨k, hk⟩ := h
 induction k using Nat.strongRecOn with
 | _ k ih =>
  by_cases h : ∃ j, j < k ∧ p j
  ·obtain ⟨j, h1, h2⟩ := h; exact ih j h1 h2
  ·exact ⟨k, hk, fun j hj hp => h ⟨j, hj, hp⟩⟩
theorem yBX (Γ : Gl) (l : List Int) (x : Int) (hl : l.length ≤ 1000000) : Go.Ot.Good Γ prog 162 [.t (lst num l), .t (num x)] [] (.t (bol (l.contains x))) [] [] := by
 rcases Classical.em (∃ k, k < l.length ∧ l.getD k 0 = x) with h | h
 ·obtain ⟨k, ⟨h1, h2⟩, h3⟩ := dP (p := fun k => k < l.length ∧ l.getD k 0 = x) h
  have hc : l.contains x = true := by
   rw [List.contains_iff_mem, ← h2]
   simp only [List.getD_eq_getElem?_getD, List.getElem?_eq_getElem h1, Option.getD_some]
   exact List.getElem_mem h1
  rw [hc]
  exact yJg Γ l x k hl h1 h2 (fun j hj e => h3 j hj ⟨by omega, e⟩)
 ·have hc : l.contains x = false := by
   rcases e : l.contains x with _ | _
   ·rfl
   ·rw [List.contains_iff_mem] at e
    obtain ⟨k, hk, e⟩ := List.mem_iff_getElem.1 e
    exact absurd ⟨k, hk, by simp only [List.getD_eq_getElem?_getD, List.getElem?_eq_getElem hk, Option.getD_some]; exact e⟩ h
  rw [hc]
  exact cnt_no Γ l x hl (fun j hj e => h ⟨j, hj, e⟩)
theorem cE (Γ : Gl) (r : Rc) (n : Int) : Go.Ot.Good Γ prog 144 [.t (num n), .rop [num r.seq, txt r.prev, num r.kind, num r.dev, .sl r.wraps.length (r.wraps.flatMap wpT), txt r.tag]] [] (.t (bol (decide (n = r.dev)))) [] [] := by
 refine yR F.mix func144 (by rfl) ntmps144 ?_
 refine yD (yA rfl ?_)
 refine yF ?_
 refine yE (yB (yC (yD (yA rfl ?_))))
 iterate 5 refine yF ?_
 refine yE (yB (yC (yO ?_)))
 refine ⟨.inr rfl, yP [] (by rw [results144]) ?_ ?_ ?_⟩ <;> simp
theorem yEj (Γ : Gl) (l : List Int) (r : Rc) (k : Nat) (hl : l.length ≤ 1000000) (hk : k < l.length) (hx : l.getD k 0 = r.dev) (hb : ∀ j, j < k → l.getD j 0 ≠ r.dev) : Go.Ot.Good Γ prog 111 [.t (lst num l), .fn 144 [.rop [num r.seq, txt r.prev, num r.kind, num r.dev, .sl r.wraps.length (r.wraps.flatMap wpT), txt r.tag]]] [] (.t (num k)) [] [] := by
 refine yR F.mix func111 (by rfl) ntmps111 ?_
 refine yD (yA rfl ?_)
 refine yF ?_
 refine yE (yB (yC (yD (yD (yA rfl ?_)))))
 iterate 3 refine yF ?_
 refine yE (yB (yC (yH ?_)))
 refine xN (fun sl L (i : Nat) => ⟨setAll (setBad sl [4, 5, 6, 9, 10, 11, 12, 13, 14, 15, 16, 17, 18]) [(8, .t (num i))], Go.Ot.look (L)⟩) (fun i => i ≤ k) (fun i => k - i) (0) (wF ?_) ?_ ?_
 ·refine yT ?_ ?_ ?_ <;> simp
 ·(first | omega | simp)
 ·intro i hi
  refine vE ?_
  refine yD (yA rfl ?_)
  refine yF ?_
  refine yE (yB (yC (yD (xF (yL (yC (yD (yH (yD (yA rfl ?_))))))))))
  iterate 2 refine yF ?_
  refine yE (yB (yC (yD (yA rfl ?_))))
  rcases (show i = k ∨ i < k by omega) with rfl | hik
  ·skip
   iterate 5 refine yF ?_
   simp only [hx]
   refine yU [] false ((by have h := cE Γ r r.dev; rw [decide_eq_true rfl] at h; exact h)) ?_
   refine yE (yB (yC (xF (yD (yA rfl ?_)))))
   iterate 2 refine yF ?_
   refine yE (yB (yC (yO (yI (yG (wI (yI (yG ?_))))))))
   refine ⟨.inr rfl, yP [] (by rw [results111]) ?_ ?_ ?_⟩ <;> simp
  ·skip
   iterate 5 refine yF ?_
   have hx1 := hb i (by omega)
   obtain ⟨v, hv⟩ : ∃ v, l.getD i 0 = v := ⟨_, rfl⟩
   simp only [hv]
   rw [hv] at hx1
   refine yU [] false ((by have h := cE Γ r v; rw [decide_eq_false hx1] at h; exact h)) ?_
   refine yE (yB (yC (yJ (yL (yS (yC (yA rfl ?_)))))))
   iterate 2 refine yF ?_
   refine yE (yB ?_)
   refine xE (i + 1) (wF ?_) ?_ ?_
   ·refine yT ?_ ?_ ?_ <;> simp
   ·(first | omega | (simp_all <;> omega))
   ·omega
theorem yGF (Γ : Gl) (l : List Int) (r : Rc) (k : Nat) (hl : l.length ≤ 1000000) (hk : k < l.length) (hx : l.getD k 0 = r.dev) (hb : ∀ j, j < k → l.getD j 0 ≠ r.dev) : Go.Ot.Good Γ prog 143 [.msl (.p 0) 0 l.length 1, .fn 144 [.rop [num r.seq, txt r.prev, num r.kind, num r.dev, .sl r.wraps.length (r.wraps.flatMap wpT), txt r.tag]]] [xZ 3 num (l)] (.msl (.p 0) 0 (fl l r.dev).length 1) [some (xZ 3 num (fl l r.dev))] [] := by
 have hft := yEA hb k (Nat.le_refl _) (by omega)
 have hf1 : fl (l.take (k + 1)) r.dev = l.take k := by rw [dY l r.dev hk, if_neg (by rw [hx]; simp), hft]
 have hr1 := row_one hk
 rw [hx] at hr1
 refine yR F.mix func143 (by rfl) ntmps143 ?_
 refine yD (yA rfl ?_)
 refine yF ?_
 refine yE (yB (yC (yD (yA rfl ?_))))
 iterate 2 refine yF ?_
 refine yU [.p 0] false (yEj Γ l r k hl hk hx hb) ?_
 refine yF ?_
 refine yE (yB (yC (yD (yD (yA rfl ?_)))))
 iterate 2 refine yF ?_
 refine yE (yB (yC (yJ (yL (yC (yD (yD (yA rfl ?_))))))))
 iterate 3 refine yF ?_
 refine yE (yB (yC (yH ?_)))
 refine xN (fun sl L (q : Nat × List Int × List Int) => ⟨setAll (setBad sl [7, 8, 9, 10, 11, 12, 13, 14, 15, 16, 17, 18, 19, 20, 21, 22, 23, 24, 25, 26, 27, 28, 29, 30, 31, 32, 33, 34, 35]) [(5, .t (num (fl (l.take q.1) r.dev).length)), (6, .t (num q.1))], Go.Ot.look (vD (.p 0) (xZ 3 num (q.2.2)) L)⟩) (fun q => k + 1 ≤ q.1 ∧ q.1 ≤ l.length ∧ (fl (l.take q.1) r.dev).length + q.2.1.length = q.1 ∧ q.2.1 ≠ [] ∧ q.2.2 = (fl (l.take q.1) r.dev) ++ q.2.1 ++ l.drop q.1) (fun q => l.length - q.1) ((k + 1, [r.dev], l)) (wF ?_) ?_ ?_
 ·refine yT ?_ ?_ ?_ <;> simp [-List.map_set, -List.map_replicate, -List.reduceReplicate, -List.map_map, -List.map_drop, -List.map_take, hf1, Nat.min_eq_left (Nat.le_of_lt hk)]
 ·refine ⟨Nat.le_refl _, by simp only []; omega, ?_, by simp, by simp only [hf1, hr1]⟩
  simp only [hf1, List.length_take, List.length_cons, List.length_nil]; omega
 ·rintro ⟨j, G, R⟩ ⟨hkj, hj, hsum, hne, hR⟩
  simp only at hkj hj hsum hne hR
  have hRl : R.length = l.length := by rw [hR]; simp; omega
  refine vE ?_
  refine yD (yD (yA rfl ?_))
  iterate 4 refine yF ?_
  refine yE (yB (yC ?_))
  refine vL (fun hc1 => ?_) (fun hc1 => ?_)
  ·(try simp only [zB] at hc1)
   refine yL (yC (yD (yH (yD (yA rfl ?_)))))
   iterate 4 refine yF ?_
   obtain ⟨v, hv⟩ : ∃ v, l.getD j 0 = v := ⟨_, rfl⟩
   have hv2 := yDu (F := fl (l.take j) r.dev) (G := G) (l := l) hsum (by omega)
   rw [hv, ← hR] at hv2
   simp only [hv2]
   refine yF ?_
   refine yE (yB (yC (yD (yA rfl ?_))))
   iterate 2 refine yF ?_
   refine yU [] false (cE Γ r v) ?_
   refine yF ?_
   refine yE (yB (yC ?_))
   refine vL (fun hc2 => ?_) (fun hc2 => ?_)
   ·(try simp only [zB] at hc2)
    refine yD (yA rfl ?_)
    iterate 5 refine yF ?_
    refine yE (yB (yC (yA rfl ?_)))
    iterate 3 refine yF ?_
    refine yE (yB (yS (yC (yA rfl ?_))))
    iterate 3 refine yF ?_
    refine yE (yB ?_)
    have hs := dY l r.dev (j := j) (by omega)
    rw [hv] at hs
    rw [if_pos (by simpa using hc2)] at hs
    obtain ⟨g, G, rfl⟩ := List.exists_cons_of_ne_nil hne
    have hkp := yBp (F := fl (l.take j) r.dev) (G := G) (l := l) (j := j) (g := g) (by omega)
    rw [hv, ← hR] at hkp
    refine xE ((j + 1, G ++ [v], R.set (fl (l.take j) r.dev).length v)) (wF ?_) ?_ ?_
    ·refine yT ?_ ?_ ?_ <;> simp [-List.map_set, -List.map_replicate, -List.reduceReplicate, -List.map_map, -List.map_drop, -List.map_take, hs]
    ·refine ⟨by simp only []; omega, by simp only []; omega, ?_, by simp, by simp only [hs]; exact hkp⟩
     simp only [hs, List.length_append, List.length_cons, List.length_nil, List.length_tail] at hsum ⊢; omega
    ·simp only []; omega
   ·(try simp only [zB] at hc2)
    refine yL (yS (yC (yA rfl ?_)))
    iterate 3 refine yF ?_
    refine yE (yB ?_)
    have hs := dY l r.dev (j := j) (by omega)
    rw [hv] at hs
    rw [if_neg (by simpa using hc2)] at hs
    have hkp := row_drop (F := fl (l.take j) r.dev) (G := G) (l := l) (j := j) (by omega)
    rw [hv, ← hR] at hkp
    refine xE ((j + 1, G ++ [v], R)) (wF ?_) ?_ ?_
    ·refine yT ?_ ?_ ?_ <;> simp [-List.map_set, -List.map_replicate, -List.reduceReplicate, -List.map_map, -List.map_drop, -List.map_take, hs]
    ·refine ⟨by simp only []; omega, by simp only []; omega, ?_, by simp, by simp only [hs]; exact hkp⟩
     simp only [hs, List.length_append, List.length_cons, List.length_nil, List.length_tail] at hsum ⊢; omega
    ·simp only []; omega
  ·(try simp only [zB] at hc1)
   refine xQ (yM (yN (yK (yC (yD (yA rfl ?_))))))
   obtain rfl : j = l.length := by omega
   obtain ⟨FF, hFF⟩ : ∃ FF, fl l r.dev = FF := ⟨_, rfl⟩
   simp only [List.take_length, List.drop_length, List.append_nil, hFF] at hsum hR ⊢
   have hG : 0 < G.length := List.length_pos_iff.2 hne
   have hGn : l.length - FF.length = G.length := by omega
   subst hR
   iterate 3 refine yF ?_
   refine yAh (fN (x := .tmp 38) 29 rfl (F.u29) (z := .int .i64 0) (by intro w; kernel_rfl) rfl rfl (m := .p 0) (off := FF.length) (n := G.length) (ob := ⟨(FF.map num).map D.t ++ (G.map num).map D.t, 3, true, true⟩) (by first | rfl | (simp only [push_cast, hGn] <;> rfl)) (by first | rfl | (simp only [push_cast]; rfl)) rfl (by omega) (by simp) (dz := num 0) (fun w M => rfl)) ?_
   refine yE (yB ?_)
   rw [bQ]
   refine yDD (eG (.p 0) FF.length rfl rfl) (vE ?_)
   rw [fT]
   refine yD (yA rfl ?_)
   iterate 4 refine yF ?_
   refine yE (yB (yC (yO ?_)))
   refine ⟨.inr rfl, yP [(.p 0, .p 0)] (by rw [results143]) ?_ ?_ ?_⟩ <;> simp [-List.map_set, -List.map_replicate, -List.reduceReplicate, -List.map_map, -List.map_drop, -List.map_take, hFF]
end Go.Proofs.Tryz
