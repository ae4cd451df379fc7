/- Contracts of this program's functions. -/
import Derived.Test.YtppicdhlpdhoiaaDoorSSA
import Derived.Test.YtppicdhlpdhoiaaDoorSSE
import Derived.Test.YtppicdhlpdhoiaaDoorSSN9
set_option maxHeartbeats 4000000
set_option maxRecDepth 100000
set_option linter.unusedVariables false
set_option linter.unusedSimpArgs false
namespace Go.Proofs.Tryd
open Go Go.Ot

theorem apF_len (ns : List UInt8) : (apF ns).length = 4 := (apK_ok ns (min 40 (ns.length / 3))).1
theorem apF_inv (ns : List UInt8) : ∀ t ∈ apF ns, inv ((40 : Nat) : Int) t := fun t ht => inv_mono (by omega) ((apK_ok ns (min 40 (ns.length / 3))).2 t ht)
theorem st_lim2 {s : Sa} (h : saB s = true) (hl : s.seen.length ≤ 2000) : (stF s).length ≤ 400000 := by
 have h2 := saB_q.1 h
 have h1 := fsz_le (fun f hf => (h2.fts f hf).1)
 have h3 := h2.few
 rw [stF_len h (by omega)]; omega
theorem GS_b {s : List UInt8} {x : Sa} (h : GS s = some x) : x.seen.length ≤ 65536 ∧ x.fs.length ≤ 65536 := by
 rw [GS] at h
 split at h
 ·cases h
 ·rename_i hn
  simp only [not_or, ne_eq, Decidable.not_not] at hn
  rcases hg : got s with _ | W
  ·rw [hg] at h; cases h; simp [stOf, Wr.z, Wr.l]
  ·rw [hg] at h; cases h; exact stOf_few hg
attribute [local irreducible] wpK wpS seqK blockK loopF regK meetK OpSpec Le rdS lpW rdW got mayS mayW putS putW nb u64 PutW stF saB makF
theorem back_good (Γ : Gl) (hE : EG Γ) (ns ms : List UInt8) (cut at_ : UInt16) (b_ : UInt8) (hn : ns.length ≤ 9223372036854775807) (hm : ms.length ≤ 9223372036854775807) : Go.Ot.Good Γ prog 3 [.t (lst w8 ns), .t (lst w8 ms), .t (w16 cut), .t (w16 at_), .t (w8 b_)] [] (.t (bol true)) [] [] := by
 refine a_body F.mix func3 (by rfl) ntmps3 ?_
 refine k_seq ?_
 refine k_region rfl ?_
 refine a_op ?_
 refine s_nil (r_false ?_)
 refine q_next ?_
 refine k_seq ?_
 refine k_seq ?_
 refine k_region rfl ?_
 refine a_op ?_
 refine a_op ?_
 refine s_nil (r_false ?_)
 refine q_next ?_
 refine a_if (fun hc0 => ?_) (fun hc0 => ?_)
 ·(try simp only [Bool.and_eq_true, Bool.or_eq_true, Bool.or_eq_false_iff, Bool.not_eq_true', Bool.not_eq_false', dec_t, dec_f, Bool.and_eq_false_imp, beq_iff_eq, beq_eq_false_iff_ne, ne_eq] at hc0)
  skip
  refine k_seq ?_
  refine k_region rfl ?_
  refine a_call [] false (awake_good Γ hE) ?_
  refine a_op ?_
  refine s_nil (r_false ?_)
  refine q_next ?_
  refine k_ret ?_
  refine q_seq_ret ?_
  refine ⟨.inr rfl, a_ret [] (by rw [results3]) ?_ ?_ ?_⟩ <;> simp [-List.map_set, -List.map_replicate, -List.reduceReplicate, -List.map_map, -List.map_drop, -List.map_take, num, bol, txt, w8, w16, w32, w64, lst, cls, rowO, boxO, List.take_of_length_le, Wr.cellsL_len, wA, Wr.k_mk, Wr.n_mk, Wr.s_mk, Wr.l_mk, Wr.cellsL, Wr.z_eq, rnT, ftT]
 ·(try simp only [Bool.and_eq_true, Bool.or_eq_true, Bool.or_eq_false_iff, Bool.not_eq_true', Bool.not_eq_false', dec_t, dec_f, Bool.and_eq_false_imp, beq_iff_eq, beq_eq_false_iff_ne, ne_eq] at hc0)
  have hb : b_ ≠ 0 := fun e => by rw [e] at hc0; simp at hc0
  refine k_skip ?_
  refine q_next ?_
  refine k_seq ?_
  refine k_region rfl ?_
  have i1 := inv_apF ns
  have i2 := inv_makF ms
  obtain ⟨s, hs⟩ : ∃ s, allF (apF ns) = s := ⟨_, rfl⟩
  obtain ⟨t, ht⟩ : ∃ t, makF ms = t := ⟨_, rfl⟩
  rw [hs] at i1
  rw [ht] at i2
  have hsq := saB_q.2 (inv_may (by omega) i1)
  have htq := saB_q.2 (inv_may (by omega) i2)
  have hsb := inv_few i1
  have htb := inv_few i2
  have hq1 := GS_st hsq (by omega)
  have h2k := st_lim2 hsq (by omega)
  have h2t := st_lim2 htq (by omega)
  have hpq := beq_ne (st_ne hsq (by omega))
  refine a_op ?_
  refine a_call [] true (apart_good Γ ns hn) ?_
  refine a_call [] true (all_good Γ 40 (by omega) (apF ns) (by rw [apF_len]; decide) (apF_inv ns)) ?_
  simp only [hs]
  refine a_op ?_
  refine a_call [] true (make_good Γ ms hm) ?_
  simp only [ht]
  iterate 4 refine a_op ?_
  refine s_nil (r_false ?_)
  refine q_next ?_
  refine k_seq ?_
  refine k_region rfl ?_
  refine a_opd ?_
  refine a_calld [] false (sput_good Γ s (by omega) (by omega)) ?_
  refine a_opd ?_
  refine a_calld [] false (sput_good Γ t (by omega) (by omega)) ?_
  refine a_opd ?_
  refine a_opd ?_
  refine s_nil (r_true (by kernel_rfl) ?_)
  refine q_next ?_
  refine k_seq ?_
  refine k_region rfl ?_
  refine a_op ?_
  refine a_call [] true ((by have h := sget_good Γ hE (stF s) (by omega); rw [hq1] at h; exact h)) ?_
  iterate 6 refine a_op ?_
  refine s_nil (r_false ?_)
  refine q_next ?_
  refine k_seq ?_
  refine k_seq ?_
  refine k_region rfl ?_
  rcases Classical.em (s = t) with hst | hst
  ·have hpt : (stF s == stF t) = true := by rw [hst]; exact beq_self_eq_true _
   have hdst : decide (s = t) = true := decide_eq_true hst
   iterate 3 refine a_op ?_
   refine a_go ?_
   refine a_go ?_
   refine a_callgo [] false ((by have h := same_good Γ s s (by omega) (by omega) (by omega) (by omega); rw [decide_eq_true rfl] at h; exact h)) ?_
   first | refine a_go ?_ | refine a_no ?_ | refine a_may ?_
   refine a_op ?_
   refine a_op ?_
   refine a_go ?_
   refine a_go (hs := by (simp (disch := first | omega | (simp only [List.length_drop, List.length_take, List.length_map, List.length_append, List.length_cons, List.length_nil, List.length_replicate, List.length_set] <;> omega) | (simp only [push_cast] <;> omega) | fail) only [push_cast, reduceCtorEq, Nat.reduceAdd, Nat.reduceSub, Nat.reduceMul, Nat.reduceEqDiff, Nat.reduceLT, Nat.reduceLeDiff, Nat.reduceMod, Nat.reduceDiv, Int.reduceLE, Int.reduceLT, Int.reduceEq, Int.reduceToNat, Int.reduceAdd, Int.reduceSub, Int.reduceMul, Int.reduceNeg, hpq] <;> rfl)) ?_
   refine a_op ?_
   refine a_op ?_
   refine a_go ?_
   refine a_go ?_
   refine a_go (hs := by (simp (disch := first | omega | (simp only [List.length_drop, List.length_take, List.length_map, List.length_append, List.length_cons, List.length_nil, List.length_replicate, List.length_set] <;> omega) | (simp only [push_cast] <;> omega) | fail) only [push_cast, reduceCtorEq, Nat.reduceAdd, Nat.reduceSub, Nat.reduceMul, Nat.reduceEqDiff, Nat.reduceLT, Nat.reduceLeDiff, Nat.reduceMod, Nat.reduceDiv, Int.reduceLE, Int.reduceLT, Int.reduceEq, Int.reduceToNat, Int.reduceAdd, Int.reduceSub, Int.reduceMul, Int.reduceNeg, hpt] <;> rfl)) ?_
   refine a_go ?_
   refine a_go ?_
   refine a_callgo [] false ((by have h := same_good Γ s t (by omega) (by omega) (by omega) (by omega); rw [hdst] at h; exact h)) ?_
   refine a_go ?_
   refine a_op ?_
   refine s_nil (r_false ?_)
   refine q_next ?_
   refine a_false ?_
   refine k_skip ?_
   refine q_next ?_
   refine k_seq ?_
   refine k_region rfl ?_
   have hc16 := UInt16.toNat_lt cut
   have ha16 := UInt16.toNat_lt at_
   have hpos : 0 < (stF s).length := List.length_pos_iff.2 (st_ne hsq (by omega))
   obtain ⟨X, hX⟩ : ∃ X, cut.toNat % (stF s).length = X := ⟨_, rfl⟩
   obtain ⟨Y, hY⟩ : ∃ X, at_.toNat % (stF s).length = X := ⟨_, rfl⟩
   have hlX : X < (stF s).length := by rw [← hX]; exact Nat.mod_lt _ hpos
   have hlY : Y < (stF s).length := by rw [← hY]; exact Nat.mod_lt _ hpos
   have tX := tmod_nat cut.toNat (stF s).length
   have tY := tmod_nat at_.toNat (stF s).length
   have uX := (Int.natCast_emod cut.toNat (stF s).length).symm
   have uY := (Int.natCast_emod at_.toNat (stF s).length).symm
   rw [hX] at tX uX
   rw [hY] at tY uY
   iterate 5 refine a_op ?_
   refine a_op (hs := by (simp (disch := first | omega | (simp only [List.length_drop, List.length_take, List.length_map, List.length_append, List.length_cons, List.length_nil, List.length_replicate, List.length_set] <;> omega) | (simp only [push_cast] <;> omega) | fail) only [push_cast, reduceCtorEq, Nat.reduceAdd, Nat.reduceSub, Nat.reduceMul, Nat.reduceEqDiff, Nat.reduceLT, Nat.reduceLeDiff, Nat.reduceMod, Nat.reduceDiv, Int.reduceLE, Int.reduceLT, Int.reduceEq, Int.reduceToNat, Int.reduceAdd, Int.reduceSub, Int.reduceMul, Int.reduceNeg, tX, uX] <;> rfl)) ?_
   refine a_op ?_
   refine a_call [] true ((by have h := sget_good Γ hE ((stF s).take X) (by rw [List.length_take]; omega); rw [GS_cut hsq (by omega) hlX] at h; exact h)) ?_
   iterate 6 refine a_op ?_
   refine s_nil (r_false ?_)
   refine q_next ?_
   refine k_seq ?_
   refine k_region rfl ?_
   refine a_op ?_
   refine a_op ?_
   refine a_call [] true ((by have h := sget_good Γ hE (stF s ++ [0]) (by rw [List.length_append]; simp; omega); rw [GS_more hsq (by omega)] at h; exact h)) ?_
   iterate 6 refine a_op ?_
   refine s_nil (r_false ?_)
   refine q_next ?_
   refine k_seq ?_
   refine k_region rfl ?_
   iterate 3 refine a_op ?_
   refine s_nil (r_false ?_)
   refine q_next ?_
   refine k_seq ?_
   refine k_region rfl ?_
   iterate 5 refine a_op ?_
   refine a_op (hs := by (simp (disch := first | omega | (simp only [List.length_drop, List.length_take, List.length_map, List.length_append, List.length_cons, List.length_nil, List.length_replicate, List.length_set] <;> omega) | (simp only [push_cast] <;> omega) | fail) only [push_cast, reduceCtorEq, Nat.reduceAdd, Nat.reduceSub, Nat.reduceMul, Nat.reduceEqDiff, Nat.reduceLT, Nat.reduceLeDiff, Nat.reduceMod, Nat.reduceDiv, Int.reduceLE, Int.reduceLT, Int.reduceEq, Int.reduceToNat, Int.reduceAdd, Int.reduceSub, Int.reduceMul, Int.reduceNeg, tY, uY] <;> rfl)) ?_
   iterate 6 refine a_op ?_
   refine s_nil (r_false ?_)
   refine q_next ?_
   refine k_seq ?_
   refine k_region rfl ?_
   rcases hq : GS ((stF s).set Y ((stF s).getD Y 0 ^^^ b_)) with _ | q
   ·skip
    refine a_op ?_
    first | refine a_text ?_ | refine a_texts ?_
    refine a_call [] true ((by have h := sget_good Γ hE (((stF s).set Y ((stF s).getD Y 0 ^^^ b_))) (by rw [List.length_set]; omega); rw [hq] at h; exact h)) ?_
    iterate 6 refine a_op ?_
    refine s_nil (r_false ?_)
    refine q_next ?_
    refine k_seq ?_
    refine k_region rfl ?_
    iterate 3 refine a_op ?_
    refine a_go ?_
    refine a_go ?_
    refine a_op ?_
    refine a_op ?_
    refine a_go ?_
    refine a_go ?_
    refine a_go ?_
    refine a_no ?_
    refine a_no ?_
    refine a_no ?_
    refine a_no ?_
    refine a_no ?_
    refine a_no ?_
    refine a_no ?_
    refine a_no ?_
    refine a_go ?_
    refine a_op ?_
    refine a_op ?_
    refine a_callgo [] false (awake_good Γ hE) ?_
    refine a_op ?_
    refine a_op ?_
    refine s_nil (r_false ?_)
    refine q_next ?_
    refine k_ret ?_
    refine ⟨.inr rfl, a_ret [] (by rw [results3]) ?_ ?_ ?_⟩ <;> simp [-List.map_set, -List.map_replicate, -List.reduceReplicate, -List.map_map, -List.map_drop, -List.map_take, num, bol, txt, w8, w16, w32, w64, lst, cls, rowO, boxO, List.take_of_length_le, Wr.cellsL_len, wA, Wr.k_mk, Wr.n_mk, Wr.s_mk, Wr.l_mk, Wr.cellsL, Wr.z_eq, rnT, ftT]
   ·obtain ⟨hqn, hqp⟩ := GS_turn hlY hb hq
    have hql := GS_b hq
    refine a_op ?_
    first | refine a_text ?_ | refine a_texts ?_
    refine a_call [] true ((by have h := sget_good Γ hE (((stF s).set Y ((stF s).getD Y 0 ^^^ b_))) (by rw [List.length_set]; omega); rw [hq] at h; exact h)) ?_
    iterate 6 refine a_op ?_
    refine s_nil (r_false ?_)
    refine q_next ?_
    refine k_seq ?_
    refine k_region rfl ?_
    iterate 3 refine a_op ?_
    refine a_go ?_
    refine a_go ?_
    refine a_op ?_
    refine a_op ?_
    refine a_go ?_
    refine a_go ?_
    refine a_go ?_
    refine a_go ?_
    refine a_go ?_
    refine a_callgo [] false ((by have h := same_good Γ q s (by omega) (by omega) (by omega) (by omega); rw [decide_eq_false hqn] at h; exact h)) ?_
    refine a_go ?_
    refine a_go ?_
    refine a_go ?_
    refine a_callgo [] false ((by have h := sa_mayR Γ q (by omega) (by omega); rw [hqp] at h; exact h)) ?_
    refine a_go ?_
    refine a_go ?_
    refine a_op ?_
    refine a_op ?_
    refine a_callgo [] false (awake_good Γ hE) ?_
    refine a_op ?_
    refine a_op ?_
    refine s_nil (r_false ?_)
    refine q_next ?_
    refine k_ret ?_
    refine ⟨.inr rfl, a_ret [] (by rw [results3]) ?_ ?_ ?_⟩ <;> simp [-List.map_set, -List.map_replicate, -List.reduceReplicate, -List.map_map, -List.map_drop, -List.map_take, num, bol, txt, w8, w16, w32, w64, lst, cls, rowO, boxO, List.take_of_length_le, Wr.cellsL_len, wA, Wr.k_mk, Wr.n_mk, Wr.s_mk, Wr.l_mk, Wr.cellsL, Wr.z_eq, rnT, ftT]
  ·have hpt : (stF s == stF t) = false := beq_eq_false_iff_ne.2 (fun e => hst (st_inj hsq htq (by omega) (by omega) e))
   have hdst : decide (s = t) = false := decide_eq_false hst
   iterate 3 refine a_op ?_
   refine a_go ?_
   refine a_go ?_
   refine a_callgo [] false ((by have h := same_good Γ s s (by omega) (by omega) (by omega) (by omega); rw [decide_eq_true rfl] at h; exact h)) ?_
   first | refine a_go ?_ | refine a_no ?_ | refine a_may ?_
   refine a_op ?_
   refine a_op ?_
   refine a_go ?_
   refine a_go (hs := by (simp (disch := first | omega | (simp only [List.length_drop, List.length_take, List.length_map, List.length_append, List.length_cons, List.length_nil, List.length_replicate, List.length_set] <;> omega) | (simp only [push_cast] <;> omega) | fail) only [push_cast, reduceCtorEq, Nat.reduceAdd, Nat.reduceSub, Nat.reduceMul, Nat.reduceEqDiff, Nat.reduceLT, Nat.reduceLeDiff, Nat.reduceMod, Nat.reduceDiv, Int.reduceLE, Int.reduceLT, Int.reduceEq, Int.reduceToNat, Int.reduceAdd, Int.reduceSub, Int.reduceMul, Int.reduceNeg, hpq] <;> rfl)) ?_
   refine a_op ?_
   refine a_op ?_
   refine a_go ?_
   refine a_go ?_
   refine a_go (hs := by (simp (disch := first | omega | (simp only [List.length_drop, List.length_take, List.length_map, List.length_append, List.length_cons, List.length_nil, List.length_replicate, List.length_set] <;> omega) | (simp only [push_cast] <;> omega) | fail) only [push_cast, reduceCtorEq, Nat.reduceAdd, Nat.reduceSub, Nat.reduceMul, Nat.reduceEqDiff, Nat.reduceLT, Nat.reduceLeDiff, Nat.reduceMod, Nat.reduceDiv, Int.reduceLE, Int.reduceLT, Int.reduceEq, Int.reduceToNat, Int.reduceAdd, Int.reduceSub, Int.reduceMul, Int.reduceNeg, hpt] <;> rfl)) ?_
   refine a_go ?_
   refine a_go ?_
   refine a_callgo [] false ((by have h := same_good Γ s t (by omega) (by omega) (by omega) (by omega); rw [hdst] at h; exact h)) ?_
   refine a_go ?_
   refine a_op ?_
   refine s_nil (r_false ?_)
   refine q_next ?_
   refine a_false ?_
   refine k_skip ?_
   refine q_next ?_
   refine k_seq ?_
   refine k_region rfl ?_
   have hc16 := UInt16.toNat_lt cut
   have ha16 := UInt16.toNat_lt at_
   have hpos : 0 < (stF s).length := List.length_pos_iff.2 (st_ne hsq (by omega))
   obtain ⟨X, hX⟩ : ∃ X, cut.toNat % (stF s).length = X := ⟨_, rfl⟩
   obtain ⟨Y, hY⟩ : ∃ X, at_.toNat % (stF s).length = X := ⟨_, rfl⟩
   have hlX : X < (stF s).length := by rw [← hX]; exact Nat.mod_lt _ hpos
   have hlY : Y < (stF s).length := by rw [← hY]; exact Nat.mod_lt _ hpos
   have tX := tmod_nat cut.toNat (stF s).length
   have tY := tmod_nat at_.toNat (stF s).length
   have uX := (Int.natCast_emod cut.toNat (stF s).length).symm
   have uY := (Int.natCast_emod at_.toNat (stF s).length).symm
   rw [hX] at tX uX
   rw [hY] at tY uY
   iterate 5 refine a_op ?_
   refine a_op (hs := by (simp (disch := first | omega | (simp only [List.length_drop, List.length_take, List.length_map, List.length_append, List.length_cons, List.length_nil, List.length_replicate, List.length_set] <;> omega) | (simp only [push_cast] <;> omega) | fail) only [push_cast, reduceCtorEq, Nat.reduceAdd, Nat.reduceSub, Nat.reduceMul, Nat.reduceEqDiff, Nat.reduceLT, Nat.reduceLeDiff, Nat.reduceMod, Nat.reduceDiv, Int.reduceLE, Int.reduceLT, Int.reduceEq, Int.reduceToNat, Int.reduceAdd, Int.reduceSub, Int.reduceMul, Int.reduceNeg, tX, uX] <;> rfl)) ?_
   refine a_op ?_
   refine a_call [] true ((by have h := sget_good Γ hE ((stF s).take X) (by rw [List.length_take]; omega); rw [GS_cut hsq (by omega) hlX] at h; exact h)) ?_
   iterate 6 refine a_op ?_
   refine s_nil (r_false ?_)
   refine q_next ?_
   refine k_seq ?_
   refine k_region rfl ?_
   refine a_op ?_
   refine a_op ?_
   refine a_call [] true ((by have h := sget_good Γ hE (stF s ++ [0]) (by rw [List.length_append]; simp; omega); rw [GS_more hsq (by omega)] at h; exact h)) ?_
   iterate 6 refine a_op ?_
   refine s_nil (r_false ?_)
   refine q_next ?_
   refine k_seq ?_
   refine k_region rfl ?_
   iterate 3 refine a_op ?_
   refine s_nil (r_false ?_)
   refine q_next ?_
   refine k_seq ?_
   refine k_region rfl ?_
   iterate 5 refine a_op ?_
   refine a_op (hs := by (simp (disch := first | omega | (simp only [List.length_drop, List.length_take, List.length_map, List.length_append, List.length_cons, List.length_nil, List.length_replicate, List.length_set] <;> omega) | (simp only [push_cast] <;> omega) | fail) only [push_cast, reduceCtorEq, Nat.reduceAdd, Nat.reduceSub, Nat.reduceMul, Nat.reduceEqDiff, Nat.reduceLT, Nat.reduceLeDiff, Nat.reduceMod, Nat.reduceDiv, Int.reduceLE, Int.reduceLT, Int.reduceEq, Int.reduceToNat, Int.reduceAdd, Int.reduceSub, Int.reduceMul, Int.reduceNeg, tY, uY] <;> rfl)) ?_
   iterate 6 refine a_op ?_
   refine s_nil (r_false ?_)
   refine q_next ?_
   refine k_seq ?_
   refine k_region rfl ?_
   rcases hq : GS ((stF s).set Y ((stF s).getD Y 0 ^^^ b_)) with _ | q
   ·skip
    refine a_op ?_
    first | refine a_text ?_ | refine a_texts ?_
    refine a_call [] true ((by have h := sget_good Γ hE (((stF s).set Y ((stF s).getD Y 0 ^^^ b_))) (by rw [List.length_set]; omega); rw [hq] at h; exact h)) ?_
    iterate 6 refine a_op ?_
    refine s_nil (r_false ?_)
    refine q_next ?_
    refine k_seq ?_
    refine k_region rfl ?_
    iterate 3 refine a_op ?_
    refine a_go ?_
    refine a_go ?_
    refine a_op ?_
    refine a_op ?_
    refine a_go ?_
    refine a_go ?_
    refine a_go ?_
    refine a_no ?_
    refine a_no ?_
    refine a_no ?_
    refine a_no ?_
    refine a_no ?_
    refine a_no ?_
    refine a_no ?_
    refine a_no ?_
    refine a_go ?_
    refine a_op ?_
    refine a_op ?_
    refine a_callgo [] false (awake_good Γ hE) ?_
    refine a_op ?_
    refine a_op ?_
    refine s_nil (r_false ?_)
    refine q_next ?_
    refine k_ret ?_
    refine ⟨.inr rfl, a_ret [] (by rw [results3]) ?_ ?_ ?_⟩ <;> simp [-List.map_set, -List.map_replicate, -List.reduceReplicate, -List.map_map, -List.map_drop, -List.map_take, num, bol, txt, w8, w16, w32, w64, lst, cls, rowO, boxO, List.take_of_length_le, Wr.cellsL_len, wA, Wr.k_mk, Wr.n_mk, Wr.s_mk, Wr.l_mk, Wr.cellsL, Wr.z_eq, rnT, ftT]
   ·obtain ⟨hqn, hqp⟩ := GS_turn hlY hb hq
    have hql := GS_b hq
    refine a_op ?_
    first | refine a_text ?_ | refine a_texts ?_
    refine a_call [] true ((by have h := sget_good Γ hE (((stF s).set Y ((stF s).getD Y 0 ^^^ b_))) (by rw [List.length_set]; omega); rw [hq] at h; exact h)) ?_
    iterate 6 refine a_op ?_
    refine s_nil (r_false ?_)
    refine q_next ?_
    refine k_seq ?_
    refine k_region rfl ?_
    iterate 3 refine a_op ?_
    refine a_go ?_
    refine a_go ?_
    refine a_op ?_
    refine a_op ?_
    refine a_go ?_
    refine a_go ?_
    refine a_go ?_
    refine a_go ?_
    refine a_go ?_
    refine a_callgo [] false ((by have h := same_good Γ q s (by omega) (by omega) (by omega) (by omega); rw [decide_eq_false hqn] at h; exact h)) ?_
    refine a_go ?_
    refine a_go ?_
    refine a_go ?_
    refine a_callgo [] false ((by have h := sa_mayR Γ q (by omega) (by omega); rw [hqp] at h; exact h)) ?_
    refine a_go ?_
    refine a_go ?_
    refine a_op ?_
    refine a_op ?_
    refine a_callgo [] false (awake_good Γ hE) ?_
    refine a_op ?_
    refine a_op ?_
    refine s_nil (r_false ?_)
    refine q_next ?_
    refine k_ret ?_
    refine ⟨.inr rfl, a_ret [] (by rw [results3]) ?_ ?_ ?_⟩ <;> simp [-List.map_set, -List.map_replicate, -List.reduceReplicate, -List.map_map, -List.map_drop, -List.map_take, num, bol, txt, w8, w16, w32, w64, lst, cls, rowO, boxO, List.take_of_length_le, Wr.cellsL_len, wA, Wr.k_mk, Wr.n_mk, Wr.s_mk, Wr.l_mk, Wr.cellsL, Wr.z_eq, rnT, ftT]

end Go.Proofs.Tryd
