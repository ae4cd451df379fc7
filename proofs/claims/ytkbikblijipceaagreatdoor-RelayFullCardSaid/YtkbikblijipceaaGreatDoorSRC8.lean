/- Contracts of this program's functions. -/
import Derived.Test.YtkbikblijipceaaGreatDoorSRC6
import Derived.Test.YtkbikblijipceaaGreatDoorSLG3
import Derived.Test.YtkbikblijipceaaGreatDoorSQ7
set_option maxHeartbeats 4000000
set_option maxRecDepth 100000
set_option linter.unusedVariables false
set_option linter.unusedSimpArgs false
namespace Go.Proofs.Tryz
open Go Go.Ot
theorem yBe {N : Nat} : ∀ {l : List (List UInt8)}, (∀ s ∈ l, s.length ≤ N) → tsz l ≤ (N + 5) * l.length
 | [], _ => Nat.zero_le _
 | s :: l, h => by
  have h1 := yBe (l := l) (fun x hx => h x (List.mem_cons_of_mem _ hx))
  have h2 := h s (List.mem_cons_self)
  simp only [tsz, List.map_cons, List.sum_cons, List.length_cons, Nat.mul_succ] at h1 ⊢; omega
theorem yFh {k d n : Int} {l : List (List UInt8)} (hk : 0 ≤ k ∧ k ≤ 100) (hd : 0 ≤ d ∧ d ≤ 100) (hn : -4503599627370496 ≤ n ∧ n ≤ 9007199254740992) (hl : l.length ≤ 60) (hs : ∀ s ∈ l, s.length ≤ 10000) : GP (Rp.p ⟨k, d, n, l⟩) = some ⟨k, d, n, l⟩ ∧ (Rp.p ⟨k, d, n, l⟩).length ≤ 1000000 := by
 have hm : mayW 6 (Rp.w ⟨k, d, n, l⟩) = true := by
  rw [Rp.w, yAx, Bool.and_eq_true, List.all_eq_true]
  exact ⟨decide_eq_true (by show l.length ≤ 65536; omega), fun s h => decide_eq_true (by have := hs s h; omega)⟩
 refine ⟨GP_p hm ⟨⟨by show (-9223372036854775808 : Int) ≤ k; omega, by show k ≤ _; omega⟩, ⟨by show (-9223372036854775808 : Int) ≤ d; omega, by show d ≤ _; omega⟩, ⟨by show (-9223372036854775808 : Int) ≤ n; omega, by show n ≤ _; omega⟩⟩, ?_⟩
 rw [Rp.p, pS hm]
 have := dE k d n l
 have ht := yBe hs
 have h2 : (10000 + 5) * l.length ≤ (10000 + 5) * 60 := Nat.mul_le_mul_left _ hl
 show (putW 6 (rpW k d n l)).length ≤ _
 omega
def adR (r : Rl) (c : Rc) : Rl := ⟨if c.kind = 2 ∧ c.dev < r.boxes.length then r.boxes.set c.dev.toNat ⟨(r.boxes.getD c.dev.toNat default).first + (r.boxes.getD c.dev.toNat default).l.length, []⟩ else r.boxes, r.log ++ [rcF c], r.snap, r.shares, r.last⟩
theorem yIu {cs : List Rc} {c : Rc} (h : ckB (cs ++ [c]) = true) : (cs.map rcF).contains (rcF c) = false := by
 rw [Bool.eq_false_iff]
 intro hm
 rw [List.contains_iff_mem] at hm
 obtain ⟨x, hx, he⟩ := List.mem_map.1 hm
 obtain ⟨j, hj, rfl⟩ := List.mem_iff_getElem.1 hx
 have e := yIv (lO h (List.mem_append_left _ hx)) (lO h (List.mem_append_right _ (List.mem_singleton.2 rfl))) he
 have h1 := (kC h (i := j) (by rw [List.length_append]; omega)).2
 have h2 := (kC h (i := cs.length) (by rw [List.length_append]; simp)).2
 rw [qT] at h2
 rw [dQ hj, show cs.getD j default = cs[j] by simp [List.getD_eq_getElem?_getD, List.getElem?_eq_getElem hj], e] at h1
 omega
theorem yHq {cs : List Rc} (i : Nat) : ((cs.map rcF).getD i []).length ≤ 1000000 := by
 by_cases h : i < cs.length
 ·have e : (cs.map rcF).getD i [] = rcF cs[i] := by simp [List.getD_eq_getElem?_getD, List.getElem?_eq_getElem h]
  rw [e]; have := nQ cs[i]; omega
 ·rw [List.getD_eq_getElem?_getD, List.getElem?_eq_none (by rw [List.length_map]; omega)]; exact Nat.zero_le _
theorem yFB (Γ : Gl) (hE : EG Γ) (r : Rl) (hr : rlS r) (cs : List Rc) (hcs : r.log = cs.map rcF) (c : Rc) (hck : ckB (cs ++ [c]) = true) (d : Int) (hd : 0 ≤ d ∧ d < r.boxes.length) (hbf : ∀ j, j < r.boxes.length → 0 ≤ (r.boxes.getD j default).first ∧ (r.boxes.getD j default).first ≤ 4503599627370496) :
  Go.Ot.Good Γ prog 14 [.agg [.t (.sl r.boxes.length (r.boxes.flatMap mbT)), .t (lst txt r.log), .t (txt r.snap), .t (num r.shares), .t (lst num r.last)], .t (txt (Rq.p ⟨4, d, 0, rcF c⟩))] [] (.tup [.agg [.t (.sl (adR r c).boxes.length ((adR r c).boxes.flatMap mbT)), .t (lst txt (adR r c).log), .t (txt (adR r c).snap), .t (num (adR r c).shares), .t (lst num (adR r c).last)], .t (txt (Rp.p ⟨4, 0, (cs.length : Int) + 1, []⟩))]) [] [] := by
 have hln : r.log.length = cs.length := by rw [hcs, List.length_map]
 have hcn : r.log.contains (rcF c) = false := by rw [hcs]; exact yIu hck
 have hl40 : cs.length + 1 ≤ 40 := by have := (uJ hck).1; rw [List.length_append] at this; exact this
 have ho : chS (r.log ++ [rcF c]) = some (cs ++ [c]) := by
  rw [hcs, show cs.map rcF ++ [rcF c] = (cs ++ [c]).map rcF from by rw [List.map_append]; rfl]
  exact yHC (fun x hx => lO hck hx)
 have hs : ∀ i, (r.log.getD i []).length ≤ 1000000 := fun i => by rw [hcs]; exact yHq i
 have hbl2 := nQ c
 have hbl : (rcF c).length ≤ 1000000 := by omega
 have hrl : (cs ++ [c]).length = r.log.length + 1 := by rw [List.length_append, hln]; rfl
 have hrc : (cs ++ [c]).getD r.log.length default = c := by rw [hln]; exact qT
 have hcp := lO hck (List.mem_append_right cs (List.mem_singleton.2 rfl))
 have hb2 := hr.b
 have hd0 : 0 ≤ c.dev ∧ c.dev < 8 := hcp.2.2.2.2.1
 have key : ∀ r' : Rl, r' = adR r c → Go.Ot.Good Γ prog 95 [.ptr (.p 0) 0, .agg [.t (num 4), .t (num d), .t (num 0), .t (txt (rcF c))], .ptr (.p 1) 0] [xR 31 [.msl (.p 2) 0 r.boxes.length 2, .msl (.p 3) 0 r.log.length 1, .t (txt r.snap), .t (num r.shares), .msl (.p 4) 0 r.last.length 1], xR 44 [.t (num 4), .t (num 0), .t (num 0), .t (.v (.slice none 0 0))], wE r.boxes, xZ 9 txt r.log, xZ 3 num r.last] (.t (.v .nilIface)) [some (xR 31 [.msl (.p 2) 0 r'.boxes.length 2, .msl (.p 3) 0 r'.log.length 1, .t (txt r'.snap), .t (num r'.shares), .msl (.p 4) 0 r'.last.length 1]), some (xR 44 [.t (num 4), .t (num 0), .t (num ((cs.length : Int) + 1)), .t (lst txt [])]), some (wE r'.boxes), some (xZ 9 txt r'.log), some (xZ 3 num r'.last)] [] → Go.Ot.Good Γ prog 14 [.agg [.t (.sl r.boxes.length (r.boxes.flatMap mbT)), .t (lst txt r.log), .t (txt r.snap), .t (num r.shares), .t (lst num r.last)], .t (txt (Rq.p ⟨4, d, 0, rcF c⟩))] [] (.tup [.agg [.t (.sl r'.boxes.length (r'.boxes.flatMap mbT)), .t (lst txt r'.log), .t (txt r'.snap), .t (num r'.shares), .t (lst num r'.last)], .t (txt (Rp.p ⟨4, 0, (cs.length : Int) + 1, []⟩))]) [] [] := fun r' e hG =>
  step_ok Γ hE r r' hr 4 d 0 ((cs.length : Int) + 1) (by omega) (by omega) (by omega) (rcF c) (by omega) [] (by simp [tsz]) (by simp) (done_4 Γ r r' d 0 ((cs.length : Int) + 1) hd (by omega) (rcF c) [] hG)
 refine key (adR r c) rfl ?_
 by_cases h : c.kind = 2 ∧ c.dev < r.boxes.length
 ·obtain ⟨j, hj⟩ : ∃ j : Nat, c.dev = (j : Int) := ⟨c.dev.toNat, by omega⟩
  have hjl : j < r.boxes.length := by omega
  have := yJy Γ hE r hr d 0 (rcF c) hcn (by omega) hs hbl (cs ++ [c]) ho hck c hrl hrc h.1 j hj hjl _ rfl (hbf j hjl)
  rw [show (r.log.length : Int) + 1 = (cs.length : Int) + 1 from by rw [hln]] at this
  have hx : adR r c = ⟨r.boxes.set j ⟨(r.boxes.getD j default).first + (r.boxes.getD j default).l.length, []⟩, r.log ++ [rcF c], r.snap, r.shares, r.last⟩ := by rw [adR, if_pos h, hj, Int.toNat_natCast]
  rw [hx]
  exact this
 ·have hx : adR r c = ⟨r.boxes, r.log ++ [rcF c], r.snap, r.shares, r.last⟩ := by rw [adR, if_neg h]
  rw [hx]
  rw [show (cs.length : Int) + 1 = (r.log.length : Int) + 1 from by rw [hln]]
  by_cases hk : c.kind = 2
  ·exact yJz Γ hE r hr d 0 (rcF c) hcn (by omega) hs hbl (cs ++ [c]) ho hck c hrl hrc hk (by have : ¬ c.dev < r.boxes.length := fun e => h ⟨hk, e⟩; omega)
  ·exact yJA Γ hE r hr d 0 (rcF c) hcn (by omega) hs hbl (cs ++ [c]) ho hck c hrl hrc hk
def rA (k : Nat) (cs : List Rc) (i : Nat) : Rl := ⟨sK k k, (cs.take i).map rcF, [], 0, List.replicate k 0⟩
theorem rA_0 (k : Nat) (cs : List Rc) : rA k cs 0 = nJ k := rfl
theorem kT {k j : Nat} (h : j < k) : (sK k k).getD j default = ⟨1, []⟩ := by
 have key : ∀ i, i ≤ k → (∀ j, j < k → (sK k i).getD j default = if j < i then ⟨1, []⟩ else ⟨0, []⟩) := by
  intro i
  induction i with
  | zero =>
   intro _ j hj
   rw [if_neg (Nat.not_lt_zero _), sK, List.getD_eq_getElem?_getD, List.getElem?_replicate, if_pos hj]; rfl
  | succ i ih =>
   intro hi j hj
   have h1 := ih (by omega) j hj
   have h2 := ih (by omega) i (by omega)
   rw [if_neg (Nat.lt_irrefl _)] at h2
   rw [sK, List.getD_eq_getElem?_getD, List.getElem?_set, vH]
   by_cases e : i = j
   ·subst e
    rw [if_pos rfl, if_pos (by omega), if_pos (by omega)]
    show (⟨1, ((sK k i).getD i default).l⟩ : Mb) = _
    rw [h2]
   ·rw [if_neg e, ← List.getD_eq_getElem?_getD, h1]
    by_cases h3 : j < i
    ·rw [if_pos h3, if_pos (by omega)]
    ·rw [if_neg h3, if_neg (by omega)]
 have := key k (Nat.le_refl _) j h
 rwa [if_pos h] at this
theorem rA_s {k : Nat} {cs : List Rc} {i : Nat} (hk : k ≤ 100) (hi : cs.length ≤ 40) : rlS (rA k cs i) := ⟨by show (sK k k).length ≤ 100; rw [vH]; exact hk, fun j => by
 show ((sK k k).getD j default).l.length ≤ 1000000
 by_cases h : j < k
 ·rw [kT h]; exact Nat.zero_le _
 ·rw [List.getD_eq_getElem?_getD, List.getElem?_eq_none (by rw [vH]; omega)]; exact Nat.zero_le _, by show ((cs.take i).map rcF).length ≤ _; rw [List.length_map, List.length_take]; omega, by show (List.replicate k (0 : Int)).length ≤ _; rw [List.length_replicate]; omega⟩
theorem rA_ad {k : Nat} {cs : List Rc} {i : Nat} (h : i < cs.length) (h0 : 0 ≤ (cs.getD i default).dev) : adR (rA k cs i) (cs.getD i default) = rA k cs (i + 1) := by
 have e : cs.getD i default = cs[i] := by simp [List.getD_eq_getElem?_getD, List.getElem?_eq_getElem h]
 have hl : (cs.take i).map rcF ++ [rcF (cs.getD i default)] = (cs.take (i + 1)).map rcF := by rw [List.take_add_one, List.getElem?_eq_getElem h, List.map_append, e]; rfl
 have hb : (if (cs.getD i default).kind = 2 ∧ (cs.getD i default).dev < ((sK k k).length : Int) then (sK k k).set (cs.getD i default).dev.toNat ⟨((sK k k).getD (cs.getD i default).dev.toNat default).first + ((sK k k).getD (cs.getD i default).dev.toNat default).l.length, []⟩ else sK k k) = sK k k := by
  split
  ·rename_i hc
   have hj : (cs.getD i default).dev.toNat < k := by have := hc.2; rw [vH] at this; omega
   rw [kT hj]
   have e2 : (sK k k)[(cs.getD i default).dev.toNat]'(by rw [vH]; exact hj) = ⟨1, []⟩ := by rw [← dW (by rw [vH]; exact hj), kT hj]
   refine List.ext_getElem (by rw [List.length_set]) (fun n h1 h2 => ?_)
   rw [List.getElem_set]
   split
   ·rename_i e3; subst e3; rw [e2]; rfl
   ·rfl
  ·rfl
 show (⟨_, _, _, _, _⟩ : Rl) = ⟨_, _, _, _, _⟩
 rw [show (rA k cs i).boxes = sK k k from rfl, show (rA k cs i).log = (cs.take i).map rcF from rfl, hb, hl]; rfl
theorem yDf (Γ : Gl) (hE : EG Γ) {k : Nat} (hk : k ≤ 100) {cs : List Rc} (hck : ckB cs = true) {i : Nat} (hi : i < cs.length) (d : Int) (hd : 0 ≤ d ∧ d < k) :
  Go.Ot.Good Γ prog 14 [.agg [.t (.sl (rA k cs i).boxes.length ((rA k cs i).boxes.flatMap mbT)), .t (lst txt (rA k cs i).log), .t (txt (rA k cs i).snap), .t (num (rA k cs i).shares), .t (lst num (rA k cs i).last)], .t (txt (Rq.p ⟨4, d, 0, rcF (cs.getD i default)⟩))] [] (.tup [.agg [.t (.sl (rA k cs (i + 1)).boxes.length ((rA k cs (i + 1)).boxes.flatMap mbT)), .t (lst txt (rA k cs (i + 1)).log), .t (txt (rA k cs (i + 1)).snap), .t (num (rA k cs (i + 1)).shares), .t (lst num (rA k cs (i + 1)).last)], .t (txt (Rp.p ⟨4, 0, (i : Int) + 1, []⟩))]) [] [] := by
 have hl := (uJ hck).1
 have e : cs.getD i default = cs[i] := by simp [List.getD_eq_getElem?_getD, List.getElem?_eq_getElem hi]
 have ht : (cs.take i).length = i := by rw [List.length_take]; omega
 have hc2 : ckB (cs.take i ++ [cs.getD i default]) = true := by
  have := yGS hck (n := i + 1) (by omega)
  rwa [List.take_add_one, List.getElem?_eq_getElem hi, Option.toList_some, ← e] at this
 have h := yFB Γ hE (rA k cs i) (rA_s hk (by omega)) (cs.take i) rfl (cs.getD i default) hc2 d (by show _ ∧ d < ((sK k k).length : Int); rw [vH]; exact hd) (fun j hj => by
  have hj : j < (sK k k).length := hj
  rw [vH] at hj
  show 0 ≤ ((sK k k).getD j default).first ∧ ((sK k k).getD j default).first ≤ _
  rw [kT hj]; exact ⟨by decide, by decide⟩)
 rw [ht, rA_ad hi (kC hck hi).1.2.2.2.2.1.1] at h
 exact h
attribute [local simp] num bol txt w8 w16 w32 w64 lst cls xZ xR List.take_of_length_le
attribute [local irreducible] wpK wpS uE wH wV wN wZ xD Le rdS lpW rdW got tB mayW uW putW nb u64 qB GQ GP tsz wTs Rq.p Rp.p chS rcF ckB
theorem fR (Γ : Gl) (l : List (List UInt8)) (hl : l.length ≤ 1000000)  : Go.Ot.Good Γ prog 49 [.t (lst txt l), .t (lst txt l)] [] (.t (bol true)) [] [] := by
 refine yR F.mix func49 (by rfl) ntmps49 ?_
 refine yD (yA rfl ?_)
 refine yF ?_
 refine yE (yB (yC (yD (yD (yA rfl ?_)))))
 iterate 5 refine yF ?_
 refine yE (yB (yC (yJ (yL (yC (yD (yD (yA rfl ?_))))))))
 refine yF ?_
 refine yE (yB (yC (yH ?_)))
 refine xN (fun sl L (i : Nat) => ⟨setAll (setBad sl [4, 6, 7, 8, 9, 10, 11, 12, 13, 14, 15, 16, 17, 18, 19, 20, 21, 22, 23, 24, 25]) [(5, .t (num i))], Go.Ot.look (L)⟩) (fun i => i ≤ l.length) (fun i => l.length - i) (0) (wF ?_) ?_ ?_
 ·refine yT ?_ ?_ ?_ <;> simp
 ·(first | omega | simp)
 ·intro i hi
  refine vE ?_
  refine yD (yD (yA rfl ?_))
  iterate 4 refine yF ?_
  refine yE (yB (yC ?_))
  refine vL (fun hc1 => ?_) (fun hc1 => ?_)
  ·(try simp only [zB] at hc1)
   refine yL (yC (yD (yH (yD (yA rfl ?_)))))
   iterate 8 refine yY ?_
   refine yY (hs := by (simp (disch := first | omega | (simp only [zL] <;> omega) | (simp only [push_cast] <;> omega) | fail) only [push_cast, reduceCtorEq, Nat.reduceAdd, Nat.reduceSub, Nat.reduceMul, Nat.reduceEqDiff, Nat.reduceLT, Nat.reduceLeDiff, Nat.reduceMod, Nat.reduceDiv, Int.reduceLE, Int.reduceLT, Int.reduceEq, Int.reduceToNat, Int.reduceAdd, Int.reduceSub, Int.reduceMul, Int.reduceNeg, bne_self_eq_false] <;> rfl)) ?_
   refine yE (xO (by kernel_rfl) (yC (yJ (yL (yS (yC (yA rfl ?_)))))))
   iterate 3 refine yF ?_
   refine yE (yB ?_)
   refine xE (i + 1) (wF ?_) ?_ ?_
   ·refine yT ?_ ?_ ?_ <;> simp
   ·(first | omega | (simp_all <;> omega))
   ·(first | omega | (simp only []; omega))
  ·(try simp only [zB] at hc1)
   refine xQ (yM (yN (yK (yC (yD (yA rfl ?_))))))
   refine yF ?_
   refine yE (yB (yC (yO ?_)))
   refine ⟨.inr rfl, yP [] (by rw [results49]) ?_ ?_ ?_⟩ <;> simp
theorem yEf (Γ : Gl) (l : List Int) (hl : l.length ≤ 1000000)  : Go.Ot.Good Γ prog 50 [.t (lst num l), .t (lst num l)] [] (.t (bol true)) [] [] := by
 refine yR F.mix func50 (by rfl) ntmps50 ?_
 refine yD (yA rfl ?_)
 refine yF ?_
 refine yE (yB (yC (yD (yD (yA rfl ?_)))))
 iterate 5 refine yF ?_
 refine yE (yB (yC (yJ (yL (yC (yD (yD (yA rfl ?_))))))))
 refine yF ?_
 refine yE (yB (yC (yH ?_)))
 refine xN (fun sl L (i : Nat) => ⟨setAll (setBad sl [4, 6, 7, 8, 9, 10, 11, 12, 13, 14, 15, 16, 17, 18, 19, 20, 21, 22, 23, 24, 25]) [(5, .t (num i))], Go.Ot.look (L)⟩) (fun i => i ≤ l.length) (fun i => l.length - i) (0) (wF ?_) ?_ ?_
 ·refine yT ?_ ?_ ?_ <;> simp
 ·(first | omega | simp)
 ·intro i hi
  refine vE ?_
  refine yD (yD (yA rfl ?_))
  iterate 4 refine yF ?_
  refine yE (yB (yC ?_))
  refine vL (fun hc1 => ?_) (fun hc1 => ?_)
  ·(try simp only [zB] at hc1)
   refine yL (yC (yD (yH (yD (yA rfl ?_)))))
   iterate 9 refine yY ?_
   refine yE (xO (by kernel_rfl) (yC (yJ (yL (yS (yC (yA rfl ?_)))))))
   iterate 3 refine yF ?_
   refine yE (yB ?_)
   refine xE (i + 1) (wF ?_) ?_ ?_
   ·refine yT ?_ ?_ ?_ <;> simp
   ·(first | omega | (simp_all <;> omega))
   ·(first | omega | (simp only []; omega))
  ·(try simp only [zB] at hc1)
   refine xQ (yM (yN (yK (yC (yD (yA rfl ?_))))))
   refine yF ?_
   refine yE (yB (yC (yO ?_)))
   refine ⟨.inr rfl, yP [] (by rw [results50]) ?_ ?_ ?_⟩ <;> simp
theorem yCl (Γ : Gl) (m : Mb) (hl : m.l.length ≤ 1000000) : Go.Ot.Good Γ prog 48 [.agg [.t (num m.first), .t (lst txt m.l)], .agg [.t (num m.first), .t (lst txt m.l)]] [] (.t (bol true)) [] [] := by
 refine yR F.mix func48 (by rfl) ntmps48 ?_
 refine yD (yA rfl ?_)
 iterate 3 refine yF ?_
 refine yE (yB (yC (yD (yA rfl ?_))))
 iterate 6 refine yF ?_
 iterate 4 refine xB ?_
 refine wT [] false (fR Γ m.l hl) ?_
 iterate 2 refine yF ?_
 refine yE (yB (yC (yO ?_)))
 refine ⟨.inr rfl, yP [] (by rw [results48]) ?_ ?_ ?_⟩ <;> simp
theorem yCk (Γ : Gl) (r : Rl) (hr : rlS r)  : Go.Ot.Good Γ prog 21 [.agg [.t (.sl r.boxes.length (r.boxes.flatMap mbT)), .t (lst txt r.log), .t (txt r.snap), .t (num r.shares), .t (lst num r.last)], .agg [.t (.sl r.boxes.length (r.boxes.flatMap mbT)), .t (lst txt r.log), .t (txt r.snap), .t (num r.shares), .t (lst num r.last)]] [] (.t (bol true)) [] [] := by
 obtain ⟨hb, hm, hg, hn⟩ := hr
 refine yR F.mix func21 (by rfl) ntmps21 ?_
 refine yD (yA rfl ?_)
 iterate 3 refine yF ?_
 refine yE (yB (yC (yD (yD (yA rfl ?_)))))
 iterate 7 refine yF ?_
 refine yE (yB (yC (yJ (yL (yC (yD (yD (yA rfl ?_))))))))
 refine yF ?_
 refine yE (yB (yC (yH ?_)))
 refine xN (fun sl L (i : Nat) => ⟨setAll (setBad sl [0, 1, 4, 6, 7, 8, 9, 10, 11, 12, 13, 14, 15, 16, 17, 18, 19, 20, 21, 22, 23, 24, 25, 26, 27, 28, 29, 30, 31]) [(5, .t (num i))], Go.Ot.look (L)⟩) (fun i => i ≤ r.boxes.length) (fun i => r.boxes.length - i) (0) (wF ?_) ?_ ?_
 ·refine yT ?_ ?_ ?_ <;> simp [mbT]
 ·(first | omega | simp)
 ·intro i hi
  refine vE ?_
  refine yD (yD (yA rfl ?_))
  iterate 5 refine yF ?_
  refine yE (yB (yC ?_))
  refine vL (fun hc1 => ?_) (fun hc1 => ?_)
  ·(try simp only [zB] at hc1)
   refine yL (yC (yD (yH (yD (yA rfl ?_)))))
   iterate 5 refine yY ?_
   obtain ⟨m, he⟩ : ∃ m, r.boxes.getD i default = m := ⟨_, rfl⟩
   simp only [he]
   iterate 5 refine yY ?_
   simp only [he]
   refine yZ [] false (yCl Γ m (by rw [← he]; exact hm i)) ?_
   refine yY ?_
   refine yE (xO (by kernel_rfl) (yC (yJ (yL (yS (yC (yA rfl ?_)))))))
   iterate 3 refine yF ?_
   refine yE (yB ?_)
   refine xE (i + 1) (wF ?_) ?_ ?_
   ·refine yT ?_ ?_ ?_ <;> simp [mbT]
   ·(first | omega | (simp_all <;> omega))
   ·(first | omega | (simp only []; omega))
  ·(try simp only [zB] at hc1)
   refine xQ (yM (yN (yK (yC (yD (yA rfl ?_))))))
   iterate 4 refine yF ?_
   refine yU [] false (fR Γ r.log hg) ?_
   refine yF ?_
   iterate 4 refine xB ?_
   refine xB (hs := by (simp (disch := first | omega | (simp only [zL] <;> omega) | (simp only [push_cast] <;> omega) | fail) only [push_cast, reduceCtorEq, Nat.reduceAdd, Nat.reduceSub, Nat.reduceMul, Nat.reduceEqDiff, Nat.reduceLT, Nat.reduceLeDiff, Nat.reduceMod, Nat.reduceDiv, Int.reduceLE, Int.reduceLT, Int.reduceEq, Int.reduceToNat, Int.reduceAdd, Int.reduceSub, Int.reduceMul, Int.reduceNeg, beq_self_eq_true] <;> rfl)) ?_
   iterate 2 refine yF ?_
   iterate 5 refine xB ?_
   iterate 2 refine yF ?_
   iterate 4 refine xB ?_
   refine wT [] false (yEf Γ r.last hn) ?_
   iterate 2 refine yF ?_
   refine yE (yB (yC (yO ?_)))
   refine ⟨.inr rfl, yP [] (by rw [results21]) ?_ ?_ ?_⟩ <;> simp [mbT]
end Go.Proofs.Tryz

namespace Go.Proofs.Tryz
open Go Go.Ot
theorem newB_33 : sK 3 3 = [⟨1, []⟩, ⟨1, []⟩, ⟨1, []⟩] := rfl
theorem newB_44 : sK 4 4 = [⟨1, []⟩, ⟨1, []⟩, ⟨1, []⟩, ⟨1, []⟩] := rfl
theorem rlS_3 : rlS (nJ 3) := ⟨by show (sK 3 3).length ≤ 100; rw [vH]; decide, fun i => by
 show ((sK 3 3).getD i default).l.length ≤ 1000000
 rw [newB_33]
 match i with
 | 0 => exact Nat.zero_le _
 | 1 => exact Nat.zero_le _
 | 2 => exact Nat.zero_le _
 | n + 3 => exact Nat.zero_le _, Nat.zero_le _, by simp [nJ]⟩
theorem GQ_nil : GQ [] = none := by simp [GQ]
theorem GP_big {k d n : Int} {l : List (List UInt8)} (hk : 0 ≤ k ∧ k ≤ 100) (hd : 0 ≤ d ∧ d ≤ 100) (hn : 0 ≤ n ∧ n ≤ 1000000) (hl : l.length ≤ 1) (hs : ∀ s ∈ l, s.length ≤ 1000000) : GP (Rp.p ⟨k, d, n, l⟩) = some ⟨k, d, n, l⟩ ∧ (Rp.p ⟨k, d, n, l⟩).length ≤ 1000000 + 100 := by
 have hm : mayW 6 (Rp.w ⟨k, d, n, l⟩) = true := by
  rw [Rp.w, yAx, Bool.and_eq_true, List.all_eq_true]
  exact ⟨decide_eq_true (by show l.length ≤ 65536; omega), fun s h => decide_eq_true (by have := hs s h; omega)⟩
 refine ⟨GP_p hm ⟨⟨by show (-9223372036854775808 : Int) ≤ k; omega, by show k ≤ _; omega⟩, ⟨by show (-9223372036854775808 : Int) ≤ d; omega, by show d ≤ _; omega⟩, ⟨by show (-9223372036854775808 : Int) ≤ n; omega, by show n ≤ _; omega⟩⟩, ?_⟩
 rw [Rp.p, pS hm]
 have := dE k d n l
 have ht : tsz l ≤ 1000005 := by
  match l, hl with
  | [], _ => exact Nat.zero_le _
  | [s], _ => have := hs s (by simp); simp [tsz]; omega
 show (putW 6 (rpW k d n l)).length ≤ _
 omega
theorem GP_ok {k d n : Int} {l : List (List UInt8)} (hk : 0 ≤ k ∧ k ≤ 100) (hd : 0 ≤ d ∧ d ≤ 100) (hn : 0 ≤ n ∧ n ≤ 1000000) (hl : l.length ≤ 1) (hs : ∀ s ∈ l, s.length ≤ 500) : GP (Rp.p ⟨k, d, n, l⟩) = some ⟨k, d, n, l⟩ ∧ (Rp.p ⟨k, d, n, l⟩).length ≤ 1000000 := by
 have hm : mayW 6 (Rp.w ⟨k, d, n, l⟩) = true := by
  rw [Rp.w, yAx, Bool.and_eq_true, List.all_eq_true]
  exact ⟨decide_eq_true (by show l.length ≤ 65536; omega), fun s h => decide_eq_true (by have := hs s h; omega)⟩
 refine ⟨(GP_big hk hd hn hl (fun s h => by have := hs s h; omega)).1, ?_⟩
 rw [Rp.p, pS hm]
 have := dE k d n l
 have ht : tsz l ≤ 505 := by
  match l, hl with
  | [], _ => exact Nat.zero_le _
  | [s], _ => have := hs s (by simp); simp [tsz]; omega
 show (putW 6 (rpW k d n l)).length ≤ _
 omega
theorem tmodn (i n : Nat) : ((i : Nat) : Int).tmod (n : Int) = ((i % n : Nat) : Int) := by rw [Int.tmod_eq_emod_of_nonneg (by omega)]; exact (Int.natCast_emod i n).symm
theorem yD6 (r : Rl) (n : Nat) : (lgQ r n).length = min 8 (r.log.length - min n r.log.length) := by rw [lgQ, List.length_take, List.length_drop]
theorem lgQ_tx {k : Nat} {cs : List Rc} {i n : Nat} : ∀ s ∈ lgQ (rA k cs i) n, s.length ≤ 2000 := fun s hs => by
 have h := List.mem_of_mem_drop (List.mem_of_mem_take hs)
 obtain ⟨c, _, rfl⟩ := List.mem_map.1 h
 exact nQ c
theorem yHr (k : Nat) (cs : List Rc) : (rA k cs cs.length).log = cs.map rcF := by rw [show (rA k cs cs.length).log = (cs.take cs.length).map rcF from rfl, List.take_length]
theorem lgQ_get {k : Nat} {cs : List Rc} {n j : Nat} (hj : j < (lgQ (rA k cs cs.length) n).length) : (lgQ (rA k cs cs.length) n).getD j [] = rcF (cs.getD (n + j) default) := by
 rw [yD6, yHr, List.length_map] at hj
 have hn : n + j < cs.length := by omega
 rw [lgQ, yHr, List.length_map, List.getD_eq_getElem?_getD, List.getElem?_take, if_pos (by omega), List.getElem?_drop, show min n cs.length + j = n + j from by omega, List.getElem?_map, List.getElem?_eq_getElem hn]
 rw [show cs.getD (n + j) default = cs[n + j] by simp [List.getD_eq_getElem?_getD, List.getElem?_eq_getElem hn]]; rfl
theorem step_log (Γ : Gl) (hE : EG Γ) {k : Nat} (hk : k ≤ 100) {cs : List Rc} (hl : cs.length ≤ 40) (i : Nat) (d : Int) (hd : 0 ≤ d ∧ d < k) (n : Nat) (hn : n ≤ 1000) :
  Go.Ot.Good Γ prog 14 [.agg [.t (.sl (rA k cs i).boxes.length ((rA k cs i).boxes.flatMap mbT)), .t (lst txt (rA k cs i).log), .t (txt (rA k cs i).snap), .t (num (rA k cs i).shares), .t (lst num (rA k cs i).last)], .t (txt (Rq.p ⟨3, d, n, []⟩))] [] (.tup [.agg [.t (.sl (rA k cs i).boxes.length ((rA k cs i).boxes.flatMap mbT)), .t (lst txt (rA k cs i).log), .t (txt (rA k cs i).snap), .t (num (rA k cs i).shares), .t (lst num (rA k cs i).last)], .t (txt (Rp.p ⟨3, 0, n, lgQ (rA k cs i) n⟩))]) [] [] := by
 have hq := yD6 (rA k cs i) n
 have ht := yBe (lgQ_tx (k := k) (cs := cs) (i := i) (n := n))
 have h2 : (2000 + 5) * (lgQ (rA k cs i) n).length ≤ (2000 + 5) * 8 := Nat.mul_le_mul_left _ (by omega)
 have hb : ((rA k cs i).boxes.length : Int) = k := by show (((sK k k).length : Nat) : Int) = _; rw [vH]
 exact step_ok Γ hE (rA k cs i) (rA k cs i) (rA_s hk hl) 3 d n n (by omega) (by omega) (by omega) [] (by simp) _ (by omega) (by omega) (done_3 Γ (rA k cs i) (rA k cs i) d n n (by rw [hb]; exact hd) (by omega) [] _ (yGi Γ (rA k cs i) (rA_s hk hl) d n (by omega) []))
attribute [local simp] num bol txt w8 w16 w32 w64 lst cls xZ xR List.take_of_length_le
attribute [local irreducible] wpK wpS uE wH wV wN wZ xD Le rdS lpW rdW got tB mayW uW putW nb u64 qB GQ GP tsz wTs Rq.p Rp.p
theorem yDe (Γ : Gl) (hE : EG Γ) (r : Rl) (hr : rlS r) (b : List UInt8) (hb : b.length ≤ 1000000) (hg : GQ b = none) : Go.Ot.Good Γ prog 14 [.agg [.t (.sl r.boxes.length (r.boxes.flatMap mbT)), .t (lst txt r.log), .t (txt r.snap), .t (num r.shares), .t (lst num r.last)], .t (txt b)] [] (.tup [.agg [.t (.sl r.boxes.length (r.boxes.flatMap mbT)), .t (lst txt r.log), .t (txt r.snap), .t (num r.shares), .t (lst num r.last)], .t (txt (Rp.p ⟨0, 5, 0, []⟩))]) [] [] := by
 refine yR F.mix func14 (by rfl) ntmps14 ?_
 refine yD (yA rfl ?_)
 iterate 3 refine yF ?_
 refine yE (yB (yC (yD (yA rfl ?_))))
 refine yF ?_
 refine yU [] true (cC Γ r hr) ?_
 iterate 2 refine yF ?_
 refine yE (yB (yC (yD (yA rfl ?_))))
 refine yF ?_
 refine yU [] true (by have h := gP Γ hE b hb; rw [hg, ansQ_none] at h; exact h) ?_
 iterate 6 refine yF ?_
 refine yE (yB (yC (yD (yD (yA rfl ?_)))))
 iterate 2 refine yF ?_
 refine yE (yB (yC (xF (yD (yA rfl ?_)))))
 iterate 2 refine yY ?_
 refine yZ [] false (lG Γ ⟨0, 5, 0, []⟩ (by simp [tsz]) (by simp)) ?_
 iterate 2 refine yY ?_
 refine yE (xO (by kernel_rfl) (yC (yO (yG ?_))))
 refine ⟨.inr rfl, yP [] (by rw [results14]) ?_ ?_ ?_⟩ <;> simp [mbT, qA, pA, Rq.z]
theorem kS (Γ : Gl) (n : Int) : Go.Ot.Good Γ prog 18 [.t (num n)] [] (.t (num n)) [] [] := by
 refine yR F.mix func18 (by rfl) ntmps18 ?_
 refine yD (yA rfl ?_)
 refine yF ?_
 refine yE (yB (yC (yD (yA rfl ?_))))
 iterate 2 refine yF ?_
 refine yE (yB (yC (yO ?_)))
 refine ⟨.inr rfl, yP [] (by rw [results18]) ?_ ?_ ?_⟩ <;> simp
theorem yCY (Γ : Gl) (hE : EG Γ)  : Go.Ot.Good Γ prog 11 [] [] (.t (bol true)) [] [] := by
 have g5 := GP_ok (k := 0) (d := 5) (n := 0) (l := []) (by omega) (by omega) (by omega) (by simp) (by simp)
 refine yR F.mix func11 (by rfl) ntmps11 ?_
 refine yD (yA rfl ?_)
 refine yF ?_
 refine yE (yB (yC (yD (yA rfl ?_))))
 refine yU [] true (aF Γ) ?_
 refine yU [] true (yDe Γ hE (nJ 3) rlS_3 [] (by simp) GQ_nil) ?_ (hv := by (simp (disch := first | omega | (simp only [zL] <;> omega) | fail) [-List.map_map, -List.map_drop, -List.map_take, VwL_cons, xM, xY, vN, xV, xW, xU, Vw_agg, xS, xX, xA, VwL_refl_map, yX, xK, xL, wK, xJ, yW, xC, yV, VwTs_app, List.take_of_length_le, srcL, notIn, ObsVw, SrcOk, pOk, Go.Ot.look, resP, resN, ev, evc, mkS, push_cast, List.take_of_length_le, nJ] <;> (try omega)))
 iterate 6 refine yF ?_
 refine yE (yB (yC (yD (yA rfl ?_))))
 refine yF ?_
 refine yU [] true ((by have h := nI Γ (Rp.p ⟨0, 5, 0, []⟩) g5.2; rw [g5.1, pZ] at h; exact h)) ?_
 iterate 2 refine yF ?_
 refine yE (yB (yC (yD (yA rfl ?_))))
 iterate 3 refine yF ?_
 iterate 3 refine xB ?_
 refine wT [] false (kS Γ 5) ?_
 refine xB ?_
 iterate 2 refine yF ?_
 iterate 4 refine xB ?_
 iterate 2 refine yF ?_
 refine yE (yB (yC (yO ?_)))
 refine ⟨.inr rfl, yP [] (by rw [results11]) ?_ ?_ ?_⟩ <;> simp [mbT, nJ, vH]
theorem new2_good (Γ : Gl)  : Go.Ot.Good Γ prog 13 [.t (num 2)] [] (.agg [.t (.sl (nJ 2).boxes.length ((nJ 2).boxes.flatMap mbT)), .t (lst txt (nJ 2).log), .t (txt (nJ 2).snap), .t (num (nJ 2).shares), .t (lst num (nJ 2).last)]) [] [] := by
 refine yR F.mix func13 (by rfl) ntmps13 ?_
 refine yD (yA rfl ?_)
 refine yF ?_
 refine yE (yB (yC (yD (yA rfl ?_))))
 iterate 3 refine yF ?_
 simp only [show (max (1 : Int) (min 2 8)) = 2 from by decide]
 refine yF ?_
 refine yE (yB (yC (yD (yA rfl ?_))))
 iterate 7 refine yY ?_
 refine yE (xO (by kernel_rfl) (yC (yD (yD (yA rfl ?_)))))
 iterate 4 refine yF ?_
 refine yE (yB (yC (yH ?_)))
 refine xN (fun sl L (i : Nat) => ⟨setAll (setBad sl [0, 4, 5, 6, 7, 8, 9, 10, 11, 12, 13, 14, 17, 18, 19, 20, 21, 22, 23, 24]) [(16, .t (num i))], Go.Ot.look (vD (.n 9) (wE (sK 2 i)) (vD (.r 2 5 0) (xR 31 [.msl (.n 9) 0 2 2, .t (.v (.slice none 0 0)), .t (txt []), .t (num 0), .msl (.r 2 3 0) 0 2 1]) (lN (.r 2 1 0) L)))⟩) (fun i => i ≤ 2) (fun i => 2 - i) (0) (wF ?_) ?_ ?_
 ·refine wL [(.r 0 0 0, .r 0 0 0), (.r 2 5 0, .r 2 5 0), (.n 9, .r 2 1 0), (.r 2 3 0, .r 2 3 0)] ?_ ?_ ?_ <;> simp [mbT, nJ, wE, sK, mbT, List.replicate] <;> (try omega)
 ·(first | omega | simp)
 ·intro i hi
  refine vE ?_
  refine yD (yA rfl ?_)
  refine yF ?_
  refine yE (yB (yC (yD ?_)))
  refine vL (fun hc0 => ?_) (fun hc0 => ?_)
  ·(try simp only [zB] at hc0)
   refine yL (yC (yD (yH (yD (yA rfl ?_)))))
   iterate 2 refine yF ?_
   refine yE (yB (yC (yA rfl ?_)))
   have hnx := jV (k := 2) (i := i) (by omega)
   iterate 6 refine yF ?_
   refine yE (yB (yS (yC (yA rfl ?_))))
   iterate 2 refine yF ?_
   refine yE (yB ?_)
   refine xE (i + 1) (wF ?_) ?_ ?_
   ·refine wL [(.r 0 0 0, .r 0 0 0), (.r 2 5 0, .r 2 5 0), (.n 9, .n 9), (.r 2 3 0, .r 2 3 0)] ?_ ?_ ?_ <;> simp [mbT, nJ, wE, hnx] <;> (try omega)
   ·(first | omega | (simp_all <;> omega))
   ·(first | omega | (simp only []; omega))
  ·(try simp only [zB] at hc0)
   refine xQ (yM (yN (yK (yC (yD (yA rfl ?_))))))
   have hil : i = 2 := by omega
   subst hil
   have hal := lY (vH 2 2)
   have hbl := vH 2 2
   iterate 2 refine yF ?_
   refine yE (yB (yC (yO ?_)))
   refine ⟨.inr rfl, yP [] (by rw [results13]) ?_ ?_ ?_⟩ <;> simp [mbT, nJ, hal, hbl, qP, -List.length_flatMap, List.replicate]
end Go.Proofs.Tryz
