/- Contracts of this program's functions. -/
import Derived.Test.YtkbikblijipceaaGreatDoorSQ6
set_option maxHeartbeats 4000000
set_option maxRecDepth 100000
set_option linter.unusedVariables false
set_option linter.unusedSimpArgs false
namespace Go.Proofs.Tryz
open Go Go.Ot
attribute [local irreducible] wpK wpS seqK blockK loopF regK meetK OpSpec Le rdS lpW rdW got mayS mayW ixF putS putW nb nbS u64 fmT PutW Rq.p Rp.p GQ GP tsz wTs
theorem refp_ref (Γ : Gl) (s : List UInt8) (hs : s.length ≤ 1000000) (W : Wr) (hW : (got s).getD Wr.z = W) (ht : tsz (wTs (part W 3).l) ≤ 1000000) : Go.Ot.Good Γ prog 17 [.t (txt s)] [] ((if s = [] ∨ (⟨(part W 0).n, (part W 1).n, (part W 2).n, wTs (part W 3).l⟩ : Rp).p ≠ s then .agg [.t (num 0), .t (num 0), .t (num 0), .t (lst txt []), .t (bol false)] else .agg [.t (num (part W 0).n), .t (num (part W 1).n), .t (num (part W 2).n), .t (lst txt (wTs (part W 3).l)), .t (bol true)])) [] [] := by
 obtain ⟨b, hb⟩ : ∃ b, (got s).isSome = b := ⟨_, rfl⟩
 have hg := GetR_good Γ s hs
 rw [gotD_eq, hW, hb] at hg
 have htl := tsz_len (wTs (part W 3).l)
 refine a_body F.mix func17 (by rfl) ntmps17 ?_
 refine k_seq ?_
 refine k_region rfl ?_
 refine a_op ?_
 refine s_nil (r_false ?_)
 refine q_next ?_
 refine k_seq ?_
 refine k_region rfl ?_
 refine a_op ?_
 refine a_call [] true (hg) ?_
 iterate 3 refine a_op ?_
 refine s_nil (r_false ?_)
 refine q_next ?_
 refine k_seq ?_
 refine k_region rfl ?_
 refine a_opd ?_
 refine a_calld [] true (Part0 Γ W) ?_
 refine a_opd ?_
 refine a_opd ?_
 refine a_calld [] true (Part1 Γ W) ?_
 refine a_opd ?_
 refine a_opd ?_
 refine a_calld [] true (Part2 Γ W) ?_
 refine a_opd ?_
 refine a_opd ?_
 refine a_calld [] true (Part3 Γ W) ?_
 refine a_calld [] true (Texts_good Γ (part W 3) (by rw [wTs_len] at htl; omega)) ?_
 iterate 3 refine a_opd ?_
 refine s_nil (r_true (by kernel_rfl) ?_)
 refine q_next ?_
 refine k_seq ?_
 refine k_seq ?_
 refine k_region rfl ?_
 have hh : (s = [] ∧ (s == []) = true) ∨ (s ≠ [] ∧ (s == []) = false) := by
  by_cases h : s = []
  ·exact .inl ⟨h, by simp [h]⟩
  ·exact .inr ⟨h, by simp [h]⟩
 rcases hh with ⟨h0, hb0⟩ | ⟨h0, hb0⟩
 ·skip
  refine a_op ?_
  refine a_op (hs := by (simp (disch := first | omega | (simp only [List.length_drop, List.length_take, List.length_map, List.length_append, List.length_cons, List.length_nil, List.length_replicate, List.length_set] <;> omega) | (simp only [push_cast] <;> omega) | fail) only [push_cast, reduceCtorEq, Nat.reduceAdd, Nat.reduceSub, Nat.reduceMul, Nat.reduceEqDiff, Nat.reduceLT, Nat.reduceLeDiff, Nat.reduceMod, Nat.reduceDiv, Int.reduceLE, Int.reduceLT, Int.reduceEq, Int.reduceToNat, Int.reduceAdd, Int.reduceSub, Int.reduceMul, Int.reduceNeg, hb0] <;> rfl)) ?_
  refine a_op ?_
  refine a_no ?_
  refine a_no ?_
  refine a_no ?_
  refine a_no ?_
  refine a_op ?_
  refine s_nil (r_false ?_)
  refine q_next ?_
  refine a_true ?_
  refine k_seq ?_
  refine k_region rfl ?_
  refine a_op ?_
  refine a_op ?_
  refine s_nil (r_false ?_)
  refine q_next ?_
  refine k_ret ?_
  refine q_seq_ret ?_
  refine ⟨.inr rfl, a_ret [] (by rw [results17]) ?_ ?_ ?_⟩ <;> simp [-List.map_set, -List.map_replicate, -List.reduceReplicate, -List.map_map, -List.map_drop, -List.map_take, num, bol, txt, w8, w16, w32, w64, lst, cls, rowO, boxO, List.take_of_length_le, Wr.cellsL_len, wA, Wr.k_mk, Wr.n_mk, Wr.s_mk, Wr.l_mk, Wr.cellsL, Wr.z_eq, wTs_len, h0]
 ·skip
  refine a_op ?_
  refine a_op (hs := by (simp (disch := first | omega | (simp only [List.length_drop, List.length_take, List.length_map, List.length_append, List.length_cons, List.length_nil, List.length_replicate, List.length_set] <;> omega) | (simp only [push_cast] <;> omega) | fail) only [push_cast, reduceCtorEq, Nat.reduceAdd, Nat.reduceSub, Nat.reduceMul, Nat.reduceEqDiff, Nat.reduceLT, Nat.reduceLeDiff, Nat.reduceMod, Nat.reduceDiv, Int.reduceLE, Int.reduceLT, Int.reduceEq, Int.reduceToNat, Int.reduceAdd, Int.reduceSub, Int.reduceMul, Int.reduceNeg, hb0] <;> rfl)) ?_
  refine a_op ?_
  refine a_go ?_
  refine a_callgo [] false (rpPutR_good Γ (⟨(part W 0).n, (part W 1).n, (part W 2).n, wTs (part W 3).l⟩ : Rp) (by show tsz (wTs (part W 3).l) ≤ 10000000; omega) (by show (wTs (part W 3).l).length ≤ 900000; omega)) ?_
  refine a_go ?_
  refine a_go ?_
  refine a_op ?_
  refine s_nil (r_false ?_)
  refine q_next ?_
  refine a_if (fun hc0 => ?_) (fun hc0 => ?_)
  ·(try simp only [Bool.and_eq_true, Bool.or_eq_true, Bool.or_eq_false_iff, Bool.not_eq_true', Bool.not_eq_false', dec_t, dec_f, Bool.and_eq_false_imp, beq_iff_eq, beq_eq_false_iff_ne, ne_eq] at hc0)
   have he : (⟨(part W 0).n, (part W 1).n, (part W 2).n, wTs (part W 3).l⟩ : Rp).p ≠ s := by simpa using hc0
   refine k_seq ?_
   refine k_region rfl ?_
   refine a_op ?_
   refine a_op ?_
   refine s_nil (r_false ?_)
   refine q_next ?_
   refine k_ret ?_
   refine q_seq_ret ?_
   refine ⟨.inr rfl, a_ret [] (by rw [results17]) ?_ ?_ ?_⟩ <;> simp [-List.map_set, -List.map_replicate, -List.reduceReplicate, -List.map_map, -List.map_drop, -List.map_take, num, bol, txt, w8, w16, w32, w64, lst, cls, rowO, boxO, List.take_of_length_le, Wr.cellsL_len, wA, Wr.k_mk, Wr.n_mk, Wr.s_mk, Wr.l_mk, Wr.cellsL, Wr.z_eq, wTs_len, h0, he]
  ·(try simp only [Bool.and_eq_true, Bool.or_eq_true, Bool.or_eq_false_iff, Bool.not_eq_true', Bool.not_eq_false', dec_t, dec_f, Bool.and_eq_false_imp, beq_iff_eq, beq_eq_false_iff_ne, ne_eq] at hc0)
   have he : (⟨(part W 0).n, (part W 1).n, (part W 2).n, wTs (part W 3).l⟩ : Rp).p = s := by simpa using hc0
   refine k_skip ?_
   refine q_next ?_
   refine k_seq ?_
   refine k_region rfl ?_
   iterate 3 refine a_op ?_
   refine s_nil (r_false ?_)
   refine q_next ?_
   refine k_ret ?_
   refine ⟨.inr rfl, a_ret [] (by rw [results17]) ?_ ?_ ?_⟩ <;> simp [-List.map_set, -List.map_replicate, -List.reduceReplicate, -List.map_map, -List.map_drop, -List.map_take, num, bol, txt, w8, w16, w32, w64, lst, cls, rowO, boxO, List.take_of_length_le, Wr.cellsL_len, wA, Wr.k_mk, Wr.n_mk, Wr.s_mk, Wr.l_mk, Wr.cellsL, Wr.z_eq, wTs_len, h0, he]

theorem GetRp_good (Γ : Gl) (s : List UInt8) (hs : s.length ≤ 1000000) : Go.Ot.Good Γ prog 17 [.t (txt s)] [] (refRp (GP s)) [] [] := by
 have h : Go.Ot.Good Γ prog 17 [.t (txt s)] [] (if s = [] ∨ (pOf ((got s).getD Wr.z)).p ≠ s then refRp none else refRp (some (pOf ((got s).getD Wr.z)))) [] [] := refp_ref Γ s hs _ rfl (Nat.le_trans (part_texts' s 3) hs)
 rw [GP]
 show Go.Ot.Good Γ prog 17 [.t (txt s)] [] (refRp (if s = [] ∨ (pOf ((got s).getD Wr.z)).p ≠ s then none else some (pOf ((got s).getD Wr.z)))) [] []
 by_cases hc : s = [] ∨ (pOf ((got s).getD Wr.z)).p ≠ s
 ·rw [if_pos hc]; rw [if_pos hc] at h; exact h
 ·rw [if_neg hc]; rw [if_neg hc] at h; exact h
end Go.Proofs.Tryz
