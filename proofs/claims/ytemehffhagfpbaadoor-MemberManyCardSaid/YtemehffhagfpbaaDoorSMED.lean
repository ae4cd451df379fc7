/- Contracts of this program's functions. -/
import Derived.Test.YtemehffhagfpbaaDoorSMEA
import Derived.Test.YtemehffhagfpbaaDoorSJ
set_option maxHeartbeats 4000000
set_option maxRecDepth 100000
set_option linter.unusedVariables false
set_option linter.unusedSimpArgs false
namespace Go.Proofs.Tryd
open Go Go.Ot

theorem VwL_app {src : Nm → Option Nm} {hp : Nm → Option Ob} {len : Nm → Prop} {xs ys : List D} : ∀ ts : List T, VwL src hp len (ts.map .t ++ xs) (ts.map .t ++ ys) ↔ VwL src hp len xs ys
  | [] => Iff.rfl
  | a :: ts => by
    have ih := VwL_app (src := src) (hp := hp) (len := len) (xs := xs) (ys := ys) ts
    constructor
    · rintro ⟨d, ds, h, h1, h2⟩
      obtain ⟨rfl, rfl⟩ := List.cons.inj h
      exact ih.1 h2
    · intro h
      exact ⟨_, _, rfl, VwT_refl hp len a, ih.2 h⟩
def mkR : Nat → Rc
  | 0 => ⟨1, [], 1, 0, [], []⟩
  | i + 1 => ⟨(i : Int) + 1 + 1, hsh (mkR i), if (i + 1) % 2 = 0 then 2 else 1, 1, [], []⟩
def mkL (k : Nat) : List Rc := (List.range k).map mkR
theorem mkR_0 : mkR 0 = ⟨1, [], 1, 0, [], []⟩ := rfl
theorem mkL_0 : mkL 0 = [] := rfl
@[push_cast] theorem mkL_len (k : Nat) : (mkL k).length = k := by simp [mkL]
theorem mkL_s (k : Nat) : mkL (k + 1) = mkL k ++ [mkR k] := by simp [mkL, List.range_succ]
theorem mkL_at {k i : Nat} (h : i < k) : (mkL k).getD i default = mkR i := by simp [mkL, List.getD_eq_getElem?_getD, h]
theorem mkR_w : ∀ i, (mkR i).wraps = []
  | 0 => rfl
  | i + 1 => rfl
theorem mkL_w (k j : Nat) : ((mkL k).getD j default).wraps.length ≤ 9223372036854775807 := by
  by_cases h : j < k
  · rw [mkL_at h, mkR_w]; decide
  · rw [List.getD_eq_getElem?_getD, List.getElem?_eq_none (by rw [mkL_len]; omega)]; decide
theorem mkR_e {k : Nat} (h : (k + 1) % 2 = 0) : mkR (k + 1) = ⟨(k : Int) + 1 + 1, hsh (mkR k), 2, 1, [], []⟩ := by rw [mkR, if_pos h]
theorem mkR_o {k : Nat} (h : (k + 1) % 2 = 1) : mkR (k + 1) = ⟨(k : Int) + 1 + 1, hsh (mkR k), 1, 1, [], []⟩ := by rw [mkR, if_neg (by omega)]
def rowRc (l : List Rc) : Ob := ⟨(l.flatMap rcT).map .t, 25, true, true⟩
@[push_cast] theorem rowRc_eq (l : List Rc) : rowRc l = ⟨(l.flatMap rcT).map .t, 25, true, true⟩ := rfl
@[push_cast] theorem mkL_row (k : Nat) : List.take 6 (List.drop (k * 6) (((mkL (k + 1)).flatMap rcT).map D.t)) = [.t (num (mkR k).seq), .t (txt (mkR k).prev), .t (num (mkR k).kind), .t (num (mkR k).dev), .t (.sl (mkR k).wraps.length ((mkR k).wraps.flatMap wpT)), .t (txt (mkR k).tag)] := by
  rw [← List.map_drop, ← List.map_take, rows_at rcT_len (by rw [mkL_len]; omega), mkL_at (by omega)]
  rfl
theorem mkL_all (i : Nat) : List.take (i * 6) (((mkL i).flatMap rcT).map D.t) = ((mkL i).flatMap rcT).map D.t := List.take_of_length_le (by rw [List.length_map, rcs_len, mkL_len]; exact Nat.le_refl _)
theorem inF_mk {k : Nat} : ∀ i, i ≤ k → inF (mkL k) i = if i = 0 then [] else if i % 2 = 1 then [0] else [0, 1]
  | 0, _ => rfl
  | i + 1, h => by
    have ih := inF_mk (k := k) i (by omega)
    have e : (mkL k).getD i default = mkR i := mkL_at (by omega)
    rw [if_neg (by omega)]
    match i, ih, e with
    | 0, ih, e => rw [inF_add (by rw [e]; rfl), ih, e]; rfl
    | i + 1, ih, e =>
      rw [if_neg (by omega)] at ih
      rcases Nat.mod_two_eq_zero_or_one (i + 1) with h2 | h2
      · rw [inF_del (by rw [e, mkR_e h2]; dsimp only; decide), ih, e, mkR_e h2, if_neg (by omega), if_pos (by omega)]; rfl
      · rw [inF_add (by rw [e, mkR_o h2]), ih, e, mkR_o h2, if_pos (by omega), if_neg (by omega)]; rfl
theorem mw_nil : mwB [] = true := by decide +kernel
theorem mk_ch {k i : Nat} (hk : k ≤ 40) (h : i < k) : chC (mkL k) (inF (mkL k) i) i = 0 := by
  have e : (mkL k).getD i default = mkR i := mkL_at h
  rw [inF_mk i (by omega)]
  match i, h, e with
  | 0, h, e => exact chC_0 e (show rcP ⟨1, [], 1, 0, [], []⟩ from by decide +kernel) ⟨rfl, rfl⟩ (show ¬ ((0 = 0 ∧ ((1 : Int) ≠ 1 ∨ (0 : Int) ≠ 0)) ∨ ((1 : Int) = 2 ∧ (0 : Int) = 0) ∨ ([] : List Int).contains 0 ≠ decide ((1 : Int) = 2)) from by decide)
  | i + 1, h, e =>
    have hp : prevF (mkL k) (i + 1) = hsh (mkR i) := by rw [prevF, mkL_at (by omega)]
    rcases Nat.mod_two_eq_zero_or_one (i + 1) with h2 | h2
    · rw [mkR_e h2] at e
      rw [if_neg (by omega), if_neg (by omega)]
      exact chC_0 e ⟨by show (1 : Int) ≤ (i : Int) + 1 + 1; omega, by show (i : Int) + 1 + 1 ≤ 1048576; omega, .inl (hsh_len _), .inr rfl, ⟨by dsimp only; decide, by dsimp only; decide⟩, .inl rfl, mw_nil⟩ ⟨by show (i : Int) + 1 + 1 = ((i + 1 : Nat) : Int) + 1; omega, hp.symm⟩ (fun h => by
        rcases h with ⟨h, _⟩ | ⟨_, h⟩ | h
        · omega
        · exact absurd h (by dsimp only; decide)
        · exact h (by show List.contains [(0 : Int), 1] 1 = decide ((2 : Int) = 2); decide))
    · rw [mkR_o h2] at e
      rw [if_neg (by omega), if_pos h2]
      exact chC_0 e ⟨by show (1 : Int) ≤ (i : Int) + 1 + 1; omega, by show (i : Int) + 1 + 1 ≤ 1048576; omega, .inl (hsh_len _), .inl rfl, ⟨by dsimp only; decide, by dsimp only; decide⟩, .inl rfl, mw_nil⟩ ⟨by show (i : Int) + 1 + 1 = ((i + 1 : Nat) : Int) + 1; omega, hp.symm⟩ (fun h => by
        rcases h with ⟨h, _⟩ | ⟨h, _⟩ | h
        · omega
        · exact absurd h (by dsimp only; decide)
        · exact h (by show List.contains [(0 : Int)] 1 = decide ((1 : Int) = 2); decide))
theorem ckB_mk (k : Nat) : ckB (mkL k) = decide ((k : Int) ≤ 40) := by
  by_cases h : k ≤ 40
  · rw [ckB_yes (by rw [mkL_len]; exact h) (fun i hi => mk_ch h (by rw [mkL_len] at hi; exact hi)), decide_eq_true (by omega)]
  · rw [ckB_long (by rw [mkL_len]; omega), decide_eq_false (by omega)]
theorem oth_ck {d : Int} (h : 0 ≤ d) : ckB [(⟨1, [], 1, 1 + d, [], []⟩ : Rc)] = false := ckB_no (i := 0) (by show 0 < 1; decide) (fun e => (chC_ok e).2.2 (.inl ⟨rfl, .inr (by show 1 + d ≠ 0; omega)⟩))
theorem non_ck : ckB [(⟨1, [], 2, 0, [], []⟩ : Rc)] = false := ckB_no (i := 0) (by show 0 < 1; decide) (fun e => (chC_ok e).2.2 (.inl ⟨rfl, .inl (by show (2 : Int) ≠ 1; decide)⟩))
theorem goes_ck (h : List UInt8) : ckB [(⟨1, [], 1, 0, [], []⟩ : Rc), ⟨2, h, 2, 0, [], []⟩] = false := ckB_no (i := 1) (by show 1 < 2; decide) (fun e => (chC_ok e).2.2 (.inr (.inl ⟨rfl, rfl⟩)))
theorem twi_ck (h : List UInt8) : ckB [(⟨1, [], 1, 0, [], []⟩ : Rc), ⟨2, h, 1, 0, [], []⟩] = false := ckB_no (i := 1) (by show 1 < 2; decide) (fun e => (chC_ok e).2.2 (.inr (.inr (by show List.contains [(0 : Int)] 0 ≠ decide ((1 : Int) = 2); decide))))
theorem w1 (a : Rc) (ha : a.wraps = []) (j : Nat) : (([a] : List Rc).getD j default).wraps.length ≤ 9223372036854775807 := by
  match j with
  | 0 => show a.wraps.length ≤ _; rw [ha]; decide
  | j + 1 => simp; decide
theorem w2 (a b : Rc) (ha : a.wraps = []) (hb : b.wraps = []) (j : Nat) : (([a, b] : List Rc).getD j default).wraps.length ≤ 9223372036854775807 := by
  match j with
  | 0 => show a.wraps.length ≤ _; rw [ha]; decide
  | 1 => show b.wraps.length ≤ _; rw [hb]; decide
  | j + 2 => simp; decide
theorem ref_hsh (r : Rc) : (sha (rcF r) == hsh r) = true := beq_self_eq_true _
attribute [local irreducible] wpK wpS seqK blockK loopF regK meetK OpSpec Le rdS lpW rdW got mayS mayW putS putW nb u64 PutW mwB sha rcF hdF hsh RG inF chC fl lkT mkR mkL
theorem many_good (Γ : Gl) (hE : EG Γ) (n dev : UInt8) : Go.Ot.Good Γ prog 3 [.t (w8 n), .t (w8 dev)] [] (.t (bol true)) [] [] := by
  have hn8 := n.toNat_lt
  have hd8 := dev.toNat_lt
  obtain ⟨K, hK, hK2⟩ : ∃ K : Nat, (n.toNat : Int) % 46 = (K : Int) ∧ K ≤ 45 := ⟨n.toNat % 46, by omega, by omega⟩
  have hK3 : (n.toNat : Int).tmod 46 = (K : Int) := by rw [Int.tmod_eq_emod_of_nonneg (by omega)]; exact hK
  obtain ⟨dd, hd, hd1, hd2⟩ : ∃ d : Int, (dev.toNat : Int) % 7 = d ∧ 0 ≤ d ∧ d ≤ 6 := ⟨_, rfl, by omega, by omega⟩
  have hd3 : (dev.toNat : Int).tmod 7 = dd := by rw [Int.tmod_eq_emod_of_nonneg (by omega)]; exact hd
  refine a_body F.mix func3 (by rfl) ntmps3 ?_
  refine k_seq ?_
  refine k_region rfl ?_
  refine a_op ?_
  refine s_nil (r_false ?_)
  refine q_next ?_
  refine k_seq ?_
  refine k_region rfl ?_
  refine a_op ?_
  refine a_op ?_
  refine a_op (hs := by (simp (maxSteps := 4000000) (disch := first | omega | (simp only [List.length_drop, List.length_take, List.length_map, List.length_append, List.length_cons, List.length_nil, List.length_replicate, List.length_set] <;> omega) | (simp only [push_cast] <;> omega) | fail) only [push_cast, reduceCtorEq, Nat.reduceAdd, Nat.reduceSub, Nat.reduceMul, Nat.reduceEqDiff, Nat.reduceLT, Nat.reduceLeDiff, Nat.reduceMod, Nat.reduceDiv, Int.reduceLE, Int.reduceLT, Int.reduceEq, Int.reduceToNat, Int.reduceAdd, Int.reduceSub, Int.reduceMul, Int.reduceNeg, hK, hK3] <;> rfl)) ?_
  refine a_op ?_
  refine s_nil (r_false ?_)
  refine q_next ?_
  refine k_seq ?_
  refine k_region rfl ?_
  refine a_op ?_
  refine s_nil (r_false ?_)
  refine q_next ?_
  refine k_seq ?_
  refine k_seq ?_
  refine k_region rfl ?_
  refine a_op ?_
  refine s_nil (r_false ?_)
  refine q_next ?_
  refine k_block ?_
  refine k_loopF (fun sl L (i : Nat) => ⟨setAll (setBad sl [0, 8, 14, 15, 16, 17, 18, 19, 20, 21, 22, 23, 24, 25, 26, 27, 28, 29, 30, 31, 32, 33, 34, 35, 36, 37, 38, 39, 40, 41, 42]) [(7, .t (num i)), (6, .msl (.n 9) 0 i 6)], Go.Ot.look (putL (.n 9) (rowRc (mkL i)) L)⟩) (fun i => i ≤ K) (fun i => K - i) (0) (a_le ?_) ?_ ?_
  · refine le_of [] ?_ ?_ ?_ <;> simp [-List.map_set, -List.map_replicate, -List.reduceReplicate, -List.map_map, -List.map_drop, -List.map_take, num, bol, txt, w8, w16, w32, w64, lst, cls, rowO, boxO, List.take_of_length_le, Wr.cellsL_len, wA, Wr.k_mk, Wr.n_mk, Wr.s_mk, Wr.l_mk, Wr.cellsL, Wr.z_eq, rcT, wpT, rowRc, mkL_0]
  · exact Nat.zero_le _
  · rintro i hi
    refine a_st ?_
    refine k_seq ?_
    refine k_seq ?_
    refine k_region rfl ?_
    iterate 3 refine a_op ?_
    refine s_nil (r_false ?_)
    refine q_next ?_
    refine a_if (fun hc0 => ?_) (fun hc0 => ?_)
    · (try simp only [Bool.and_eq_true, Bool.or_eq_true, Bool.or_eq_false_iff, Bool.not_eq_true', Bool.not_eq_false', dec_t, dec_f, Bool.and_eq_false_imp, beq_iff_eq, beq_eq_false_iff_ne, ne_eq] at hc0)
      refine k_skip ?_
      refine q_next ?_
      refine k_seq ?_
      refine k_block ?_
      refine k_seq ?_
      refine k_region rfl ?_
      iterate 5 refine a_op ?_
      refine s_nil (r_false ?_)
      refine q_next ?_
      refine k_seq ?_
      refine k_seq ?_
      refine k_region rfl ?_
      rcases i with _ | k
      · skip
        refine a_op ?_
        refine a_op ?_
        refine s_nil (r_false ?_)
        refine q_next ?_
        refine a_true ?_
        refine k_region rfl ?_
        refine a_op ?_
        refine a_op ?_
        refine s_nil (r_false ?_)
        refine q_next ?_
        refine k_region rfl ?_
        have hnx : mkL (0 + 1) = mkL 0 ++ [⟨1, [], 1, 0, [], []⟩] := by rw [mkL_s 0, mkR_0]
        iterate 5 refine a_op ?_
        refine s_nil (r_false ?_)
        refine q_block (q_next ?_)
        refine k_region rfl ?_
        iterate 3 refine a_op ?_
        refine s_nil (r_false ?_)
        refine q_loopF (0 + 1) (a_le ?_) ?_ ?_
        · refine le_of [(.n 9, .n 9)] ?_ ?_ ?_ <;> simp [-List.map_set, -List.map_replicate, -List.reduceReplicate, -List.map_map, -List.map_drop, -List.map_take, num, bol, txt, w8, w16, w32, w64, lst, cls, rowO, boxO, List.take_of_length_le, Wr.cellsL_len, wA, Wr.k_mk, Wr.n_mk, Wr.s_mk, Wr.l_mk, Wr.cellsL, Wr.z_eq, rcT, wpT, rowRc, hnx, List.flatMap_append, rcT, List.map_append, VwL_app]
        · omega
        · (first | omega | (simp only []; omega))
      · skip
        refine a_op ?_
        refine a_op ?_
        refine s_nil (r_false ?_)
        refine q_next ?_
        refine a_false ?_
        refine k_seq ?_
        refine k_region rfl ?_
        refine a_op ?_
        refine a_op ?_
        refine a_op (hs := by (simp (maxSteps := 4000000) (disch := first | omega | (simp only [List.length_drop, List.length_take, List.length_map, List.length_append, List.length_cons, List.length_nil, List.length_replicate, List.length_set] <;> omega) | (simp only [push_cast] <;> omega) | fail) only [push_cast, reduceCtorEq, Nat.reduceAdd, Nat.reduceSub, Nat.reduceMul, Nat.reduceEqDiff, Nat.reduceLT, Nat.reduceLeDiff, Nat.reduceMod, Nat.reduceDiv, Int.reduceLE, Int.reduceLT, Int.reduceEq, Int.reduceToNat, Int.reduceAdd, Int.reduceSub, Int.reduceMul, Int.reduceNeg, show ((k : Int) + 1 - 1) = k from by omega] <;> rfl)) ?_
        refine a_op ?_
        refine a_op ?_
        refine a_call [] false (hash_good Γ (mkR k) (by rw [mkR_w]; decide)) ?_ (hv := by (simp (maxSteps := 4000000) (disch := first | omega | (simp only [List.length_drop, List.length_take, List.length_map, List.length_append, List.length_cons, List.length_nil, List.length_replicate, List.length_set] <;> omega) | fail) [-List.map_map, -List.map_drop, -List.map_take, VwL_cons, VwL_nil, Vw_bad, Vw_t, Vw_ptr, Vw_msl, Vw_rop, Vw_agg, Vw_tup, Vw_ifc, VwT_refl, VwL_refl_map, Vw_nilmsl, VwT_msl, VwT_agg, VwT_v, VwT_nil, VwTs_cons, VwTs_nil, VwTs_refl, VwTs_app, List.take_of_length_le, srcL, notIn, ObsVw, SrcOk, pOk, Go.Ot.look, resP, resN, ev, evc, mkS, push_cast, List.take_of_length_le] <;> (try omega)))
        refine a_op ?_
        refine a_op ?_
        refine s_nil (r_false ?_)
        refine q_next ?_
        refine k_seq ?_
        refine k_region rfl ?_
        rcases Nat.mod_two_eq_zero_or_one (k + 1) with h2 | h2
        · have ht : ((k : Int) + 1).tmod 2 = 0 := by rw [Int.tmod_eq_emod_of_nonneg (by omega)]; omega
          have ht2 : ((k : Int) + 1) % 2 = 0 := by omega
          refine a_op ?_
          refine a_op (hs := by (simp (maxSteps := 4000000) (disch := first | omega | (simp only [List.length_drop, List.length_take, List.length_map, List.length_append, List.length_cons, List.length_nil, List.length_replicate, List.length_set] <;> omega) | (simp only [push_cast] <;> omega) | fail) only [push_cast, reduceCtorEq, Nat.reduceAdd, Nat.reduceSub, Nat.reduceMul, Nat.reduceEqDiff, Nat.reduceLT, Nat.reduceLeDiff, Nat.reduceMod, Nat.reduceDiv, Int.reduceLE, Int.reduceLT, Int.reduceEq, Int.reduceToNat, Int.reduceAdd, Int.reduceSub, Int.reduceMul, Int.reduceNeg, ht, ht2] <;> rfl)) ?_
          refine a_op ?_
          refine s_nil (r_false ?_)
          refine q_next ?_
          refine a_true ?_
          refine k_region rfl ?_
          refine a_op ?_
          refine a_op ?_
          refine s_nil (r_false ?_)
          refine q_next ?_
          refine k_region rfl ?_
          have hnx : mkL (k + 1 + 1) = mkL (k + 1) ++ [⟨(k : Int) + 1 + 1, hsh (mkR k), 2, 1, [], []⟩] := by rw [mkL_s (k + 1), mkR_e h2]
          iterate 5 refine a_op ?_
          refine s_nil (r_false ?_)
          refine q_block (q_next ?_)
          refine k_region rfl ?_
          iterate 3 refine a_op ?_
          refine s_nil (r_false ?_)
          refine q_loopF (k + 1 + 1) (a_le ?_) ?_ ?_
          · refine le_of [(.n 9, .n 9)] ?_ ?_ ?_ <;> simp [-List.map_set, -List.map_replicate, -List.reduceReplicate, -List.map_map, -List.map_drop, -List.map_take, num, bol, txt, w8, w16, w32, w64, lst, cls, rowO, boxO, List.take_of_length_le, Wr.cellsL_len, wA, Wr.k_mk, Wr.n_mk, Wr.s_mk, Wr.l_mk, Wr.cellsL, Wr.z_eq, rcT, wpT, rowRc, hnx, List.flatMap_append, rcT, List.map_append, VwL_app]
          · omega
          · (first | omega | (simp only []; omega))
        · have ht : ((k : Int) + 1).tmod 2 = 1 := by rw [Int.tmod_eq_emod_of_nonneg (by omega)]; omega
          have ht2 : ((k : Int) + 1) % 2 = 1 := by omega
          refine a_op ?_
          refine a_op (hs := by (simp (maxSteps := 4000000) (disch := first | omega | (simp only [List.length_drop, List.length_take, List.length_map, List.length_append, List.length_cons, List.length_nil, List.length_replicate, List.length_set] <;> omega) | (simp only [push_cast] <;> omega) | fail) only [push_cast, reduceCtorEq, Nat.reduceAdd, Nat.reduceSub, Nat.reduceMul, Nat.reduceEqDiff, Nat.reduceLT, Nat.reduceLeDiff, Nat.reduceMod, Nat.reduceDiv, Int.reduceLE, Int.reduceLT, Int.reduceEq, Int.reduceToNat, Int.reduceAdd, Int.reduceSub, Int.reduceMul, Int.reduceNeg, ht, ht2] <;> rfl)) ?_
          refine a_op ?_
          refine s_nil (r_false ?_)
          refine q_next ?_
          refine a_false ?_
          refine k_skip ?_
          refine q_next ?_
          refine k_region rfl ?_
          have hnx : mkL (k + 1 + 1) = mkL (k + 1) ++ [⟨(k : Int) + 1 + 1, hsh (mkR k), 1, 1, [], []⟩] := by rw [mkL_s (k + 1), mkR_o h2]
          iterate 5 refine a_op ?_
          refine s_nil (r_false ?_)
          refine q_block (q_next ?_)
          refine k_region rfl ?_
          iterate 3 refine a_op ?_
          refine s_nil (r_false ?_)
          refine q_loopF (k + 1 + 1) (a_le ?_) ?_ ?_
          · refine le_of [(.n 9, .n 9)] ?_ ?_ ?_ <;> simp [-List.map_set, -List.map_replicate, -List.reduceReplicate, -List.map_map, -List.map_drop, -List.map_take, num, bol, txt, w8, w16, w32, w64, lst, cls, rowO, boxO, List.take_of_length_le, Wr.cellsL_len, wA, Wr.k_mk, Wr.n_mk, Wr.s_mk, Wr.l_mk, Wr.cellsL, Wr.z_eq, rcT, wpT, rowRc, hnx, List.flatMap_append, rcT, List.map_append, VwL_app]
          · omega
          · (first | omega | (simp only []; omega))
    · (try simp only [Bool.and_eq_true, Bool.or_eq_true, Bool.or_eq_false_iff, Bool.not_eq_true', Bool.not_eq_false', dec_t, dec_f, Bool.and_eq_false_imp, beq_iff_eq, beq_eq_false_iff_ne, ne_eq] at hc0)
      refine k_exit ?_
      refine q_seq_exit (q_loopF_exit (q_block_exit (q_next ?_)))
      refine k_seq ?_
      refine k_region rfl ?_
      have hiK : i = K := by omega
      subst hiK
      refine a_op ?_
      refine a_op ?_
      refine a_op (hs := by (simp (maxSteps := 4000000) (disch := first | omega | (simp only [List.length_drop, List.length_take, List.length_map, List.length_append, List.length_cons, List.length_nil, List.length_replicate, List.length_set] <;> omega) | (simp only [push_cast] <;> omega) | fail) only [push_cast, reduceCtorEq, Nat.reduceAdd, Nat.reduceSub, Nat.reduceMul, Nat.reduceEqDiff, Nat.reduceLT, Nat.reduceLeDiff, Nat.reduceMod, Nat.reduceDiv, Int.reduceLE, Int.reduceLT, Int.reduceEq, Int.reduceToNat, Int.reduceAdd, Int.reduceSub, Int.reduceMul, Int.reduceNeg, hd, hd3] <;> rfl)) ?_
      iterate 4 refine a_op ?_
      refine s_nil (r_false ?_)
      refine q_next ?_
      refine k_seq ?_
      refine k_region rfl ?_
      iterate 3 refine a_op ?_
      refine s_nil (r_false ?_)
      refine q_next ?_
      refine k_seq ?_
      refine k_region rfl ?_
      iterate 3 refine a_op ?_
      refine s_nil (r_false ?_)
      refine q_next ?_
      refine k_seq ?_
      refine k_region rfl ?_
      refine a_op ?_
      refine a_call [] false (hash_good Γ ⟨1, [], 1, 0, [], []⟩ (by decide)) ?_ (hv := by (simp (maxSteps := 4000000) (disch := first | omega | (simp only [List.length_drop, List.length_take, List.length_map, List.length_append, List.length_cons, List.length_nil, List.length_replicate, List.length_set] <;> omega) | fail) [-List.map_map, -List.map_drop, -List.map_take, VwL_cons, VwL_nil, Vw_bad, Vw_t, Vw_ptr, Vw_msl, Vw_rop, Vw_agg, Vw_tup, Vw_ifc, VwT_refl, VwL_refl_map, Vw_nilmsl, VwT_msl, VwT_agg, VwT_v, VwT_nil, VwTs_cons, VwTs_nil, VwTs_refl, VwTs_app, List.take_of_length_le, srcL, notIn, ObsVw, SrcOk, pOk, Go.Ot.look, resP, resN, ev, evc, mkS, push_cast, List.take_of_length_le] <;> (try omega)))
      iterate 3 refine a_op ?_
      refine s_nil (r_false ?_)
      refine q_next ?_
      refine k_seq ?_
      refine k_region rfl ?_
      refine a_op ?_
      refine a_call [] false (hash_good Γ ⟨1, [], 1, 0, [], []⟩ (by decide)) ?_ (hv := by (simp (maxSteps := 4000000) (disch := first | omega | (simp only [List.length_drop, List.length_take, List.length_map, List.length_append, List.length_cons, List.length_nil, List.length_replicate, List.length_set] <;> omega) | fail) [-List.map_map, -List.map_drop, -List.map_take, VwL_cons, VwL_nil, Vw_bad, Vw_t, Vw_ptr, Vw_msl, Vw_rop, Vw_agg, Vw_tup, Vw_ifc, VwT_refl, VwL_refl_map, Vw_nilmsl, VwT_msl, VwT_agg, VwT_v, VwT_nil, VwTs_cons, VwTs_nil, VwTs_refl, VwTs_app, List.take_of_length_le, srcL, notIn, ObsVw, SrcOk, pOk, Go.Ot.look, resP, resN, ev, evc, mkS, push_cast, List.take_of_length_le] <;> (try omega)))
      iterate 3 refine a_op ?_
      refine s_nil (r_false ?_)
      refine q_next ?_
      refine k_seq ?_
      refine k_region rfl ?_
      refine a_opd ?_
      refine a_calld [.n 9] false ((by have h := check_good Γ (mkL i) (by rw [mkL_len]; omega) (mkL_w i); rw [ckB_mk] at h; exact h)) ?_ (hv := by (simp (maxSteps := 4000000) (disch := first | omega | (simp only [List.length_drop, List.length_take, List.length_map, List.length_append, List.length_cons, List.length_nil, List.length_replicate, List.length_set] <;> omega) | fail) [-List.map_map, -List.map_drop, -List.map_take, VwL_cons, VwL_nil, Vw_bad, Vw_t, Vw_ptr, Vw_msl, Vw_rop, Vw_agg, Vw_tup, Vw_ifc, VwT_refl, VwL_refl_map, Vw_nilmsl, VwT_msl, VwT_agg, VwT_v, VwT_nil, VwTs_cons, VwTs_nil, VwTs_refl, VwTs_app, List.take_of_length_le, srcL, notIn, ObsVw, SrcOk, pOk, Go.Ot.look, resP, resN, ev, evc, mkS, push_cast, List.take_of_length_le, mkL_len, mkL_all, -List.length_flatMap, rcs_len] <;> (try omega)))
      refine a_opd ?_
      refine a_opd ?_
      refine a_opd (hs := by (simp (maxSteps := 4000000) (disch := first | omega | (simp only [List.length_drop, List.length_take, List.length_map, List.length_append, List.length_cons, List.length_nil, List.length_replicate, List.length_set] <;> omega) | (simp only [push_cast] <;> omega) | fail) only [push_cast, reduceCtorEq, Nat.reduceAdd, Nat.reduceSub, Nat.reduceMul, Nat.reduceEqDiff, Nat.reduceLT, Nat.reduceLeDiff, Nat.reduceMod, Nat.reduceDiv, Int.reduceLE, Int.reduceLT, Int.reduceEq, Int.reduceToNat, Int.reduceAdd, Int.reduceSub, Int.reduceMul, Int.reduceNeg, beq_self_eq_true] <;> rfl)) ?_
      refine a_opd ?_
      refine a_god ?_
      refine a_god ?_
      refine a_callgod [.r 18 7 0] false ((by have h := check_good Γ [⟨1, [], 1, 1 + dd, [], []⟩] (by simp) (by intro j; exact w1 _ rfl j); rw [oth_ck hd1] at h; exact h)) ?_ (hv := by (simp (maxSteps := 4000000) (disch := first | omega | (simp only [List.length_drop, List.length_take, List.length_map, List.length_append, List.length_cons, List.length_nil, List.length_replicate, List.length_set] <;> omega) | fail) [-List.map_map, -List.map_drop, -List.map_take, VwL_cons, VwL_nil, Vw_bad, Vw_t, Vw_ptr, Vw_msl, Vw_rop, Vw_agg, Vw_tup, Vw_ifc, VwT_refl, VwL_refl_map, Vw_nilmsl, VwT_msl, VwT_agg, VwT_v, VwT_nil, VwTs_cons, VwTs_nil, VwTs_refl, VwTs_app, List.take_of_length_le, srcL, notIn, ObsVw, SrcOk, pOk, Go.Ot.look, resP, resN, ev, evc, mkS, push_cast, List.take_of_length_le, List.flatMap_cons, List.flatMap_nil, rcT, wpT, List.append_nil, List.cons_append, List.nil_append] <;> (try omega)))
      refine a_god ?_
      refine a_opd ?_
      refine a_opd ?_
      refine a_god ?_
      refine a_god ?_
      refine a_callgod [.r 18 13 0] false ((by have h := check_good Γ [⟨1, [], 2, 0, [], []⟩] (by simp) (by intro j; exact w1 _ rfl j); rw [non_ck] at h; exact h)) ?_ (hv := by (simp (maxSteps := 4000000) (disch := first | omega | (simp only [List.length_drop, List.length_take, List.length_map, List.length_append, List.length_cons, List.length_nil, List.length_replicate, List.length_set] <;> omega) | fail) [-List.map_map, -List.map_drop, -List.map_take, VwL_cons, VwL_nil, Vw_bad, Vw_t, Vw_ptr, Vw_msl, Vw_rop, Vw_agg, Vw_tup, Vw_ifc, VwT_refl, VwL_refl_map, Vw_nilmsl, VwT_msl, VwT_agg, VwT_v, VwT_nil, VwTs_cons, VwTs_nil, VwTs_refl, VwTs_app, List.take_of_length_le, srcL, notIn, ObsVw, SrcOk, pOk, Go.Ot.look, resP, resN, ev, evc, mkS, push_cast, List.take_of_length_le, List.flatMap_cons, List.flatMap_nil, rcT, wpT, List.append_nil, List.cons_append, List.nil_append] <;> (try omega)))
      refine a_god ?_
      refine a_opd ?_
      refine a_opd ?_
      refine a_god ?_
      refine a_god ?_
      refine a_god ?_
      refine a_callgod [.r 18 20 0] false ((by have h := check_good Γ [⟨1, [], 1, 0, [], []⟩, ⟨2, hsh ⟨1, [], 1, 0, [], []⟩, 2, 0, [], []⟩] (by simp) (by intro j; exact w2 _ _ rfl rfl j); rw [goes_ck] at h; exact h)) ?_ (hv := by (simp (maxSteps := 4000000) (disch := first | omega | (simp only [List.length_drop, List.length_take, List.length_map, List.length_append, List.length_cons, List.length_nil, List.length_replicate, List.length_set] <;> omega) | fail) [-List.map_map, -List.map_drop, -List.map_take, VwL_cons, VwL_nil, Vw_bad, Vw_t, Vw_ptr, Vw_msl, Vw_rop, Vw_agg, Vw_tup, Vw_ifc, VwT_refl, VwL_refl_map, Vw_nilmsl, VwT_msl, VwT_agg, VwT_v, VwT_nil, VwTs_cons, VwTs_nil, VwTs_refl, VwTs_app, List.take_of_length_le, srcL, notIn, ObsVw, SrcOk, pOk, Go.Ot.look, resP, resN, ev, evc, mkS, push_cast, List.take_of_length_le, List.flatMap_cons, List.flatMap_nil, rcT, wpT, List.append_nil, List.cons_append, List.nil_append] <;> (try omega)))
      refine a_god ?_
      refine a_opd ?_
      refine a_opd ?_
      refine a_god (hs := by (simp (maxSteps := 4000000) (disch := first | omega | (simp only [List.length_drop, List.length_take, List.length_map, List.length_append, List.length_cons, List.length_nil, List.length_replicate, List.length_set] <;> omega) | (simp only [push_cast] <;> omega) | fail) only [push_cast, reduceCtorEq, Nat.reduceAdd, Nat.reduceSub, Nat.reduceMul, Nat.reduceEqDiff, Nat.reduceLT, Nat.reduceLeDiff, Nat.reduceMod, Nat.reduceDiv, Int.reduceLE, Int.reduceLT, Int.reduceEq, Int.reduceToNat, Int.reduceAdd, Int.reduceSub, Int.reduceMul, Int.reduceNeg, beq_self_eq_true] <;> rfl)) ?_
      refine a_god (hs := by (simp (maxSteps := 4000000) (disch := first | omega | (simp only [List.length_drop, List.length_take, List.length_map, List.length_append, List.length_cons, List.length_nil, List.length_replicate, List.length_set] <;> omega) | (simp only [push_cast] <;> omega) | fail) only [push_cast, reduceCtorEq, Nat.reduceAdd, Nat.reduceSub, Nat.reduceMul, Nat.reduceEqDiff, Nat.reduceLT, Nat.reduceLeDiff, Nat.reduceMod, Nat.reduceDiv, Int.reduceLE, Int.reduceLT, Int.reduceEq, Int.reduceToNat, Int.reduceAdd, Int.reduceSub, Int.reduceMul, Int.reduceNeg, beq_self_eq_true] <;> rfl)) ?_
      refine a_god (hs := by (simp (maxSteps := 4000000) (disch := first | omega | (simp only [List.length_drop, List.length_take, List.length_map, List.length_append, List.length_cons, List.length_nil, List.length_replicate, List.length_set] <;> omega) | (simp only [push_cast] <;> omega) | fail) only [push_cast, reduceCtorEq, Nat.reduceAdd, Nat.reduceSub, Nat.reduceMul, Nat.reduceEqDiff, Nat.reduceLT, Nat.reduceLeDiff, Nat.reduceMod, Nat.reduceDiv, Int.reduceLE, Int.reduceLT, Int.reduceEq, Int.reduceToNat, Int.reduceAdd, Int.reduceSub, Int.reduceMul, Int.reduceNeg, beq_self_eq_true] <;> rfl)) ?_
      refine a_callgod [.r 18 27 0] false ((by have h := check_good Γ [⟨1, [], 1, 0, [], []⟩, ⟨2, hsh ⟨1, [], 1, 0, [], []⟩, 1, 0, [], []⟩] (by simp) (by intro j; exact w2 _ _ rfl rfl j); rw [twi_ck] at h; exact h)) ?_ (hv := by (simp (maxSteps := 4000000) (disch := first | omega | (simp only [List.length_drop, List.length_take, List.length_map, List.length_append, List.length_cons, List.length_nil, List.length_replicate, List.length_set] <;> omega) | fail) [-List.map_map, -List.map_drop, -List.map_take, VwL_cons, VwL_nil, Vw_bad, Vw_t, Vw_ptr, Vw_msl, Vw_rop, Vw_agg, Vw_tup, Vw_ifc, VwT_refl, VwL_refl_map, Vw_nilmsl, VwT_msl, VwT_agg, VwT_v, VwT_nil, VwTs_cons, VwTs_nil, VwTs_refl, VwTs_app, List.take_of_length_le, srcL, notIn, ObsVw, SrcOk, pOk, Go.Ot.look, resP, resN, ev, evc, mkS, push_cast, List.take_of_length_le, List.flatMap_cons, List.flatMap_nil, rcT, wpT, List.append_nil, List.cons_append, List.nil_append] <;> (try omega)))
      refine a_god (hs := by (simp (maxSteps := 4000000) (disch := first | omega | (simp only [List.length_drop, List.length_take, List.length_map, List.length_append, List.length_cons, List.length_nil, List.length_replicate, List.length_set] <;> omega) | (simp only [push_cast] <;> omega) | fail) only [push_cast, reduceCtorEq, Nat.reduceAdd, Nat.reduceSub, Nat.reduceMul, Nat.reduceEqDiff, Nat.reduceLT, Nat.reduceLeDiff, Nat.reduceMod, Nat.reduceDiv, Int.reduceLE, Int.reduceLT, Int.reduceEq, Int.reduceToNat, Int.reduceAdd, Int.reduceSub, Int.reduceMul, Int.reduceNeg, beq_self_eq_true] <;> rfl)) ?_
      refine a_opd (hs := by (simp (maxSteps := 4000000) (disch := first | omega | (simp only [List.length_drop, List.length_take, List.length_map, List.length_append, List.length_cons, List.length_nil, List.length_replicate, List.length_set] <;> omega) | (simp only [push_cast] <;> omega) | fail) only [push_cast, reduceCtorEq, Nat.reduceAdd, Nat.reduceSub, Nat.reduceMul, Nat.reduceEqDiff, Nat.reduceLT, Nat.reduceLeDiff, Nat.reduceMod, Nat.reduceDiv, Int.reduceLE, Int.reduceLT, Int.reduceEq, Int.reduceToNat, Int.reduceAdd, Int.reduceSub, Int.reduceMul, Int.reduceNeg, beq_self_eq_true] <;> rfl)) ?_
      refine a_opd (hs := by (simp (maxSteps := 4000000) (disch := first | omega | (simp only [List.length_drop, List.length_take, List.length_map, List.length_append, List.length_cons, List.length_nil, List.length_replicate, List.length_set] <;> omega) | (simp only [push_cast] <;> omega) | fail) only [push_cast, reduceCtorEq, Nat.reduceAdd, Nat.reduceSub, Nat.reduceMul, Nat.reduceEqDiff, Nat.reduceLT, Nat.reduceLeDiff, Nat.reduceMod, Nat.reduceDiv, Int.reduceLE, Int.reduceLT, Int.reduceEq, Int.reduceToNat, Int.reduceAdd, Int.reduceSub, Int.reduceMul, Int.reduceNeg, beq_self_eq_true] <;> rfl)) ?_
      refine a_god (hs := by (simp (maxSteps := 4000000) (disch := first | omega | (simp only [List.length_drop, List.length_take, List.length_map, List.length_append, List.length_cons, List.length_nil, List.length_replicate, List.length_set] <;> omega) | (simp only [push_cast] <;> omega) | fail) only [push_cast, reduceCtorEq, Nat.reduceAdd, Nat.reduceSub, Nat.reduceMul, Nat.reduceEqDiff, Nat.reduceLT, Nat.reduceLeDiff, Nat.reduceMod, Nat.reduceDiv, Int.reduceLE, Int.reduceLT, Int.reduceEq, Int.reduceToNat, Int.reduceAdd, Int.reduceSub, Int.reduceMul, Int.reduceNeg, beq_self_eq_true] <;> rfl)) ?_
      refine a_callgod [] false (rput_good Γ ⟨1, [], 1, 0, [], []⟩ (by decide)) ?_ (hv := by (simp (maxSteps := 4000000) (disch := first | omega | (simp only [List.length_drop, List.length_take, List.length_map, List.length_append, List.length_cons, List.length_nil, List.length_replicate, List.length_set] <;> omega) | fail) [-List.map_map, -List.map_drop, -List.map_take, VwL_cons, VwL_nil, Vw_bad, Vw_t, Vw_ptr, Vw_msl, Vw_rop, Vw_agg, Vw_tup, Vw_ifc, VwT_refl, VwL_refl_map, Vw_nilmsl, VwT_msl, VwT_agg, VwT_v, VwT_nil, VwTs_cons, VwTs_nil, VwTs_refl, VwTs_app, List.take_of_length_le, srcL, notIn, ObsVw, SrcOk, pOk, Go.Ot.look, resP, resN, ev, evc, mkS, push_cast, List.take_of_length_le] <;> (try omega)))
      refine a_callgod [] false (ref_good Γ (rcF ⟨1, [], 1, 0, [], []⟩) (by have := rcF_len ⟨1, [], 1, 0, [], []⟩; omega)) ?_ (hv := by (simp (maxSteps := 4000000) (disch := first | omega | (simp only [List.length_drop, List.length_take, List.length_map, List.length_append, List.length_cons, List.length_nil, List.length_replicate, List.length_set] <;> omega) | fail) [-List.map_map, -List.map_drop, -List.map_take, VwL_cons, VwL_nil, Vw_bad, Vw_t, Vw_ptr, Vw_msl, Vw_rop, Vw_agg, Vw_tup, Vw_ifc, VwT_refl, VwL_refl_map, Vw_nilmsl, VwT_msl, VwT_agg, VwT_v, VwT_nil, VwTs_cons, VwTs_nil, VwTs_refl, VwTs_app, List.take_of_length_le, srcL, notIn, ObsVw, SrcOk, pOk, Go.Ot.look, resP, resN, ev, evc, mkS, push_cast, List.take_of_length_le] <;> (try omega)))
      refine a_god (hs := by (simp (maxSteps := 4000000) (disch := first | omega | (simp only [List.length_drop, List.length_take, List.length_map, List.length_append, List.length_cons, List.length_nil, List.length_replicate, List.length_set] <;> omega) | (simp only [push_cast] <;> omega) | fail) only [push_cast, reduceCtorEq, Nat.reduceAdd, Nat.reduceSub, Nat.reduceMul, Nat.reduceEqDiff, Nat.reduceLT, Nat.reduceLeDiff, Nat.reduceMod, Nat.reduceDiv, Int.reduceLE, Int.reduceLT, Int.reduceEq, Int.reduceToNat, Int.reduceAdd, Int.reduceSub, Int.reduceMul, Int.reduceNeg, beq_self_eq_true] <;> rfl)) ?_
      refine a_callgod [] false (hash_good Γ ⟨1, [], 1, 0, [], []⟩ (by decide)) ?_ (hv := by (simp (maxSteps := 4000000) (disch := first | omega | (simp only [List.length_drop, List.length_take, List.length_map, List.length_append, List.length_cons, List.length_nil, List.length_replicate, List.length_set] <;> omega) | fail) [-List.map_map, -List.map_drop, -List.map_take, VwL_cons, VwL_nil, Vw_bad, Vw_t, Vw_ptr, Vw_msl, Vw_rop, Vw_agg, Vw_tup, Vw_ifc, VwT_refl, VwL_refl_map, Vw_nilmsl, VwT_msl, VwT_agg, VwT_v, VwT_nil, VwTs_cons, VwTs_nil, VwTs_refl, VwTs_app, List.take_of_length_le, srcL, notIn, ObsVw, SrcOk, pOk, Go.Ot.look, resP, resN, ev, evc, mkS, push_cast, List.take_of_length_le] <;> (try omega)))
      refine a_god (hs := by (simp (maxSteps := 4000000) (disch := first | omega | (simp only [List.length_drop, List.length_take, List.length_map, List.length_append, List.length_cons, List.length_nil, List.length_replicate, List.length_set] <;> omega) | (simp only [push_cast] <;> omega) | fail) only [push_cast, reduceCtorEq, Nat.reduceAdd, Nat.reduceSub, Nat.reduceMul, Nat.reduceEqDiff, Nat.reduceLT, Nat.reduceLeDiff, Nat.reduceMod, Nat.reduceDiv, Int.reduceLE, Int.reduceLT, Int.reduceEq, Int.reduceToNat, Int.reduceAdd, Int.reduceSub, Int.reduceMul, Int.reduceNeg, ref_hsh] <;> rfl)) ?_
      refine a_opd (hs := by (simp (maxSteps := 4000000) (disch := first | omega | (simp only [List.length_drop, List.length_take, List.length_map, List.length_append, List.length_cons, List.length_nil, List.length_replicate, List.length_set] <;> omega) | (simp only [push_cast] <;> omega) | fail) only [push_cast, reduceCtorEq, Nat.reduceAdd, Nat.reduceSub, Nat.reduceMul, Nat.reduceEqDiff, Nat.reduceLT, Nat.reduceLeDiff, Nat.reduceMod, Nat.reduceDiv, Int.reduceLE, Int.reduceLT, Int.reduceEq, Int.reduceToNat, Int.reduceAdd, Int.reduceSub, Int.reduceMul, Int.reduceNeg, beq_self_eq_true] <;> rfl)) ?_
      refine a_opd (hs := by (simp (maxSteps := 4000000) (disch := first | omega | (simp only [List.length_drop, List.length_take, List.length_map, List.length_append, List.length_cons, List.length_nil, List.length_replicate, List.length_set] <;> omega) | (simp only [push_cast] <;> omega) | fail) only [push_cast, reduceCtorEq, Nat.reduceAdd, Nat.reduceSub, Nat.reduceMul, Nat.reduceEqDiff, Nat.reduceLT, Nat.reduceLeDiff, Nat.reduceMod, Nat.reduceDiv, Int.reduceLE, Int.reduceLT, Int.reduceEq, Int.reduceToNat, Int.reduceAdd, Int.reduceSub, Int.reduceMul, Int.reduceNeg, beq_self_eq_true] <;> rfl)) ?_
      refine a_callgod [] false (awake_good Γ hE) ?_
      refine a_opd ?_
      refine a_opd ?_
      refine s_nil (r_true (by kernel_rfl) ?_)
      refine q_next ?_
      refine k_ret ?_
      refine ⟨.inr rfl, a_ret [] (by rw [results3]) ?_ ?_ ?_⟩ <;> simp [-List.map_set, -List.map_replicate, -List.reduceReplicate, -List.map_map, -List.map_drop, -List.map_take, num, bol, txt, w8, w16, w32, w64, lst, cls, rowO, boxO, List.take_of_length_le, Wr.cellsL_len, wA, Wr.k_mk, Wr.n_mk, Wr.s_mk, Wr.l_mk, Wr.cellsL, Wr.z_eq, rcT, wpT]

end Go.Proofs.Tryd
