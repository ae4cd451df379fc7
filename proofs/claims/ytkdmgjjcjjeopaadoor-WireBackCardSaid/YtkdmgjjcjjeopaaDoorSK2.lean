/- Contracts of this program's functions. -/
import Derived.Test.YtkdmgjjcjjeopaaDoorSK1
import Derived.Test.YtkdmgjjcjjeopaaDoorSL1
set_option maxHeartbeats 4000000
set_option maxRecDepth 100000
set_option linter.unusedVariables false
set_option linter.unusedSimpArgs false
namespace Go.Proofs.Tryd
open Go Go.Ot
attribute [local irreducible] wpK wpS seqK blockK loopF regK meetK OpSpec Le rdS lpW rdW got mayS mayW ixF putS putW nb nbS u64 fmT PutW sameW sameL manyS manyN mfold makeN kids bnd
theorem back_good (Γ : Gl) (hE : EG Γ) (ns : List UInt8) (s : List UInt8) (cut at_ : UInt16) (by_ more : UInt8) : Go.Ot.Good Γ prog 4 [.t (lst w8 ns), .t (txt s), .t (w16 cut), .t (w16 at_), .t (w8 by_), .t (w8 more)] [] (.t (bol true)) [] [] := by
  refine a_body F.mix func4 (by rfl) ntmps4 ?_
  refine k_seq ?_
  refine k_region rfl ?_
  refine a_op ?_
  refine s_nil (r_false ?_)
  refine q_next ?_
  refine k_seq ?_
  refine k_seq ?_
  refine k_region rfl ?_
  have h3 : 30 < ns.length ∨ (ns.length ≤ 30 ∧ 80 < s.length) ∨ (ns.length ≤ 30 ∧ s.length ≤ 80 ∧ by_ = 0) ∨ (ns.length ≤ 30 ∧ s.length ≤ 80 ∧ by_ ≠ 0) := by
    by_cases hb : by_ = 0 <;> simp [hb] <;> omega
  rcases h3 with ha | ⟨ha, hb⟩ | ⟨ha, hb, rfl⟩ | ⟨ha, hb, hc⟩
  · try (have hbn : by_.toNat ≠ 0 := fun e => hc (UInt8.toNat_inj.1 e))
    iterate 4 refine a_op ?_
    refine a_no ?_
    refine a_no ?_
    refine a_no ?_
    refine a_op ?_
    refine a_op ?_
    refine a_no ?_
    refine a_no ?_
    refine a_op ?_
    refine s_nil (r_false ?_)
    refine q_next ?_
    refine a_true ?_
    refine k_seq ?_
    refine k_region rfl ?_
    refine a_call [] false (awake_good Γ hE) ?_
    refine a_op ?_
    refine s_nil (r_false ?_)
    refine q_next ?_
    refine k_ret ?_
    refine q_seq_ret ?_
    refine ⟨.inr rfl, a_ret [] (by rw [results4]) ?_ ?_ ?_⟩ <;> simp [-List.map_set, -List.map_replicate, -List.reduceReplicate, -List.map_map, -List.map_drop, -List.map_take, num, bol, txt, w8, w16, w32, w64, lst, cls, rowO, boxO, List.take_of_length_le, Wr.cellsL_len, wA, Wr.k_mk, Wr.n_mk, Wr.s_mk, Wr.l_mk, Wr.cellsL, Wr.z_eq]
  · try (have hbn : by_.toNat ≠ 0 := fun e => hc (UInt8.toNat_inj.1 e))
    iterate 4 refine a_op ?_
    refine a_go ?_
    refine a_go ?_
    refine a_go ?_
    refine a_op ?_
    refine a_op ?_
    refine a_no ?_
    refine a_no ?_
    refine a_op ?_
    refine s_nil (r_false ?_)
    refine q_next ?_
    refine a_true ?_
    refine k_seq ?_
    refine k_region rfl ?_
    refine a_call [] false (awake_good Γ hE) ?_
    refine a_op ?_
    refine s_nil (r_false ?_)
    refine q_next ?_
    refine k_ret ?_
    refine q_seq_ret ?_
    refine ⟨.inr rfl, a_ret [] (by rw [results4]) ?_ ?_ ?_⟩ <;> simp [-List.map_set, -List.map_replicate, -List.reduceReplicate, -List.map_map, -List.map_drop, -List.map_take, num, bol, txt, w8, w16, w32, w64, lst, cls, rowO, boxO, List.take_of_length_le, Wr.cellsL_len, wA, Wr.k_mk, Wr.n_mk, Wr.s_mk, Wr.l_mk, Wr.cellsL, Wr.z_eq]
  · try (have hbn : by_.toNat ≠ 0 := fun e => hc (UInt8.toNat_inj.1 e))
    iterate 4 refine a_op ?_
    refine a_go ?_
    refine a_go ?_
    refine a_go ?_
    refine a_op ?_
    refine a_op ?_
    refine a_go ?_
    refine a_go ?_
    refine a_op ?_
    refine s_nil (r_false ?_)
    refine q_next ?_
    refine a_true ?_
    refine k_seq ?_
    refine k_region rfl ?_
    refine a_call [] false (awake_good Γ hE) ?_
    refine a_op ?_
    refine s_nil (r_false ?_)
    refine q_next ?_
    refine k_ret ?_
    refine q_seq_ret ?_
    refine ⟨.inr rfl, a_ret [] (by rw [results4]) ?_ ?_ ?_⟩ <;> simp [-List.map_set, -List.map_replicate, -List.reduceReplicate, -List.map_map, -List.map_drop, -List.map_take, num, bol, txt, w8, w16, w32, w64, lst, cls, rowO, boxO, List.take_of_length_le, Wr.cellsL_len, wA, Wr.k_mk, Wr.n_mk, Wr.s_mk, Wr.l_mk, Wr.cellsL, Wr.z_eq]
  · try (have hbn : by_.toNat ≠ 0 := fun e => hc (UInt8.toNat_inj.1 e))
    iterate 4 refine a_op ?_
    refine a_go ?_
    refine a_go ?_
    refine a_go ?_
    refine a_op ?_
    refine a_op ?_
    refine a_go ?_
    refine a_go ?_
    refine a_op ?_
    refine s_nil (r_false ?_)
    refine q_next ?_
    refine a_false ?_
    refine k_skip ?_
    refine q_next ?_
    refine k_seq ?_
    refine k_region rfl ?_
    obtain ⟨hsz, hpl⟩ := make_small hb 31 ns
    have hrg := make_rng s 31 ns 6
    refine a_op ?_
    refine a_op ?_
    refine a_call [] true (make_good Γ s hb 31 (by omega) ns (by omega)) ?_
    refine a_op ?_
    refine a_op ?_
    refine s_nil (r_false ?_)
    refine q_next ?_
    refine k_seq ?_
    refine k_seq ?_
    refine k_region rfl ?_
    rcases hm : mayW 6 (makeN s 31 ns) with _ | _
    · try (have hgot := got_PutW hm hrg; have hne := PutW_ne hm; have hpos : 0 < (PutW (makeN s 31 ns)).length := List.length_pos_iff.2 hne; have hPl : (PutW (makeN s 31 ns)).length ≤ 26100 := PutW_small hpl; have hcut := Nat.mod_lt cut.toNat hpos; have hat := Nat.mod_lt at_.toNat hpos; have htc := tmod_nat cut.toNat (PutW (makeN s 31 ns)).length; have hta := tmod_nat at_.toNat (PutW (makeN s 31 ns)).length; have htc2 := (Int.natCast_emod cut.toNat (PutW (makeN s 31 ns)).length).symm; have hta2 := (Int.natCast_emod at_.toNat (PutW (makeN s 31 ns)).length).symm; have hneb : ((PutW (makeN s 31 ns)) == ([] : List UInt8)) = false := by simp [hne])
      refine a_op ?_
      refine a_call [] false ((by have h := May_good Γ (makeN s 31 ns); rw [hm] at h; exact h)) ?_
      refine a_op ?_
      refine s_nil (r_false ?_)
      refine q_next ?_
      refine a_true ?_
      refine k_seq ?_
      refine k_region rfl ?_
      refine a_op ?_
      refine a_call [] false ((by have h := Put_good Γ (makeN s 31 ns) (fun _ => by omega); rw [PutW_f hm] at h; exact h)) ?_
      refine a_op ?_
      refine a_op ?_
      refine a_callgo [] false (awake_good Γ hE) ?_
      refine a_op ?_
      refine a_op ?_
      refine s_nil (r_false ?_)
      refine q_next ?_
      refine k_ret ?_
      refine q_seq_ret ?_
      refine ⟨.inr rfl, a_ret [] (by rw [results4]) ?_ ?_ ?_⟩ <;> simp [-List.map_set, -List.map_replicate, -List.reduceReplicate, -List.map_map, -List.map_drop, -List.map_take, num, bol, txt, w8, w16, w32, w64, lst, cls, rowO, boxO, List.take_of_length_le, Wr.cellsL_len, wA, Wr.k_mk, Wr.n_mk, Wr.s_mk, Wr.l_mk, Wr.cellsL, Wr.z_eq]
    · try (have hgot := got_PutW hm hrg; have hne := PutW_ne hm; have hpos : 0 < (PutW (makeN s 31 ns)).length := List.length_pos_iff.2 hne; have hPl : (PutW (makeN s 31 ns)).length ≤ 26100 := PutW_small hpl; have hcut := Nat.mod_lt cut.toNat hpos; have hat := Nat.mod_lt at_.toNat hpos; have htc := tmod_nat cut.toNat (PutW (makeN s 31 ns)).length; have hta := tmod_nat at_.toNat (PutW (makeN s 31 ns)).length; have htc2 := (Int.natCast_emod cut.toNat (PutW (makeN s 31 ns)).length).symm; have hta2 := (Int.natCast_emod at_.toNat (PutW (makeN s 31 ns)).length).symm; have hneb : ((PutW (makeN s 31 ns)) == ([] : List UInt8)) = false := by simp [hne])
      refine a_op ?_
      refine a_call [] false ((by have h := May_good Γ (makeN s 31 ns); rw [hm] at h; exact h)) ?_
      refine a_op ?_
      refine s_nil (r_false ?_)
      refine q_next ?_
      refine a_false ?_
      refine k_skip ?_
      refine q_next ?_
      refine k_seq ?_
      refine k_region rfl ?_
      refine a_op ?_
      refine a_call [] false (Put_good Γ (makeN s 31 ns) (fun _ => by omega)) ?_
      refine a_op ?_
      refine s_nil (r_false ?_)
      refine q_next ?_
      refine k_seq ?_
      refine k_region rfl ?_
      refine a_op ?_
      refine a_call [] true ((by have h := Get_good Γ hE ((PutW (makeN s 31 ns))) (by omega); rw [hgot, Option.getD_some, Option.isSome_some] at h; exact h)) ?_
      iterate 6 refine a_op ?_
      refine s_nil (r_false ?_)
      refine q_next ?_
      refine k_seq ?_
      refine k_seq ?_
      refine k_region rfl ?_
      iterate 3 refine a_op ?_
      refine a_go ?_
      refine a_go ?_
      refine a_callgo [] false ((by have h := sameR_good Γ 1000000 (makeN s 31 ns) (makeN s 31 ns) (by omega) (by omega) (by omega); rw [sameW_self] at h; exact h)) ?_
      refine a_go ?_
      refine a_op ?_
      refine a_op ?_
      refine a_go ?_
      refine a_go (hs := by (simp only [push_cast, hneb] <;> rfl)) ?_
      refine a_op ?_
      refine s_nil (r_false ?_)
      refine q_next ?_
      refine a_false ?_
      refine k_skip ?_
      refine q_next ?_
      refine k_seq ?_
      refine k_region rfl ?_
      obtain ⟨X, hX⟩ : ∃ X, cut.toNat % (PutW (makeN s 31 ns)).length = X := ⟨_, rfl⟩
      obtain ⟨Y, hY⟩ : ∃ Y, at_.toNat % (PutW (makeN s 31 ns)).length = Y := ⟨_, rfl⟩
      rw [hX] at hcut htc htc2
      rw [hY] at hat hta hta2
      have hc16 := UInt16.toNat_lt cut
      have ha16 := UInt16.toNat_lt at_
      iterate 5 refine a_op ?_
      refine a_op (hs := by (simp (disch := first | omega | (simp only [List.length_drop, List.length_take, List.length_map, List.length_append, List.length_cons, List.length_nil, List.length_replicate, List.length_set] <;> omega) | (simp only [push_cast] <;> omega) | fail) only [push_cast, reduceCtorEq, Nat.reduceAdd, Nat.reduceSub, Nat.reduceMul, Nat.reduceEqDiff, Nat.reduceLT, Nat.reduceLeDiff, Nat.reduceMod, Nat.reduceDiv, Int.reduceLE, Int.reduceLT, Int.reduceEq, Int.reduceToNat, Int.reduceAdd, Int.reduceSub, Int.reduceMul, Int.reduceNeg, htc, htc2] <;> rfl)) ?_
      refine a_op ?_
      refine a_call [] true ((by have h := Get_good Γ hE ((PutW (makeN s 31 ns)).take X) (by rw [List.length_take]; omega); rw [got_take hgot hcut, Option.getD_none, Option.isSome_none] at h; exact h)) ?_
      iterate 6 refine a_op ?_
      refine s_nil (r_false ?_)
      refine q_next ?_
      refine k_seq ?_
      refine k_region rfl ?_
      iterate 3 refine a_op ?_
      first | refine a_text ?_ | refine a_texts ?_
      refine a_op ?_
      refine a_call [] true ((by have h := Get_good Γ hE ((PutW (makeN s 31 ns)) ++ [more]) (by simp only [List.length_append, List.length_cons, List.length_nil]; omega); rw [got_more hm hrg, Option.getD_none, Option.isSome_none] at h; exact h)) ?_
      iterate 6 refine a_op ?_
      refine s_nil (r_false ?_)
      refine q_next ?_
      refine k_seq ?_
      refine k_region rfl ?_
      iterate 3 refine a_op ?_
      refine s_nil (r_false ?_)
      refine q_next ?_
      refine k_seq ?_
      refine k_region rfl ?_
      iterate 5 refine a_op ?_
      refine a_op (hs := by (simp (disch := first | omega | (simp only [List.length_drop, List.length_take, List.length_map, List.length_append, List.length_cons, List.length_nil, List.length_replicate, List.length_set] <;> omega) | (simp only [push_cast] <;> omega) | fail) only [push_cast, reduceCtorEq, Nat.reduceAdd, Nat.reduceSub, Nat.reduceMul, Nat.reduceEqDiff, Nat.reduceLT, Nat.reduceLeDiff, Nat.reduceMod, Nat.reduceDiv, Int.reduceLE, Int.reduceLT, Int.reduceEq, Int.reduceToNat, Int.reduceAdd, Int.reduceSub, Int.reduceMul, Int.reduceNeg, hta, hta2] <;> rfl)) ?_
      iterate 6 refine a_op ?_
      refine s_nil (r_false ?_)
      refine q_next ?_
      refine k_seq ?_
      refine k_region rfl ?_
      rcases hy : got ((PutW (makeN s 31 ns)).set Y ((PutW (makeN s 31 ns)).getD Y 0 ^^^ by_)) with _ | y
      · try have hys := got_sz hy
        refine a_op ?_
        first | refine a_text ?_ | refine a_texts ?_
        refine a_call [] true ((by have h := Get_good Γ hE (((PutW (makeN s 31 ns)).set Y ((PutW (makeN s 31 ns)).getD Y 0 ^^^ by_))) (by rw [List.length_set]; omega); rw [hy, Option.getD_none, Option.isSome_none] at h; exact h)) ?_
        iterate 6 refine a_op ?_
        refine s_nil (r_false ?_)
        refine q_next ?_
        refine k_seq ?_
        refine k_region rfl ?_
        iterate 3 refine a_op ?_
        refine a_go ?_
        refine a_go ?_
        refine a_op ?_
        refine a_op ?_
        refine a_go ?_
        refine a_go ?_
        refine a_go ?_
        refine a_no ?_
        refine a_no ?_
        refine a_no ?_
        refine a_no ?_
        refine a_go ?_
        refine a_op ?_
        refine a_op ?_
        refine a_callgo [] false (awake_good Γ hE) ?_
        refine a_op ?_
        refine a_op ?_
        refine s_nil (r_false ?_)
        refine q_next ?_
        refine k_ret ?_
        refine ⟨.inr rfl, a_ret [] (by rw [results4]) ?_ ?_ ?_⟩ <;> simp [-List.map_set, -List.map_replicate, -List.reduceReplicate, -List.map_map, -List.map_drop, -List.map_take, num, bol, txt, w8, w16, w32, w64, lst, cls, rowO, boxO, List.take_of_length_le, Wr.cellsL_len, wA, Wr.k_mk, Wr.n_mk, Wr.s_mk, Wr.l_mk, Wr.cellsL, Wr.z_eq]
      · try have hys := got_sz hy
        refine a_op ?_
        first | refine a_text ?_ | refine a_texts ?_
        refine a_call [] true ((by have h := Get_good Γ hE (((PutW (makeN s 31 ns)).set Y ((PutW (makeN s 31 ns)).getD Y 0 ^^^ by_))) (by rw [List.length_set]; omega); rw [hy, Option.getD_some, Option.isSome_some] at h; exact h)) ?_
        iterate 6 refine a_op ?_
        refine s_nil (r_false ?_)
        refine q_next ?_
        refine k_seq ?_
        refine k_region rfl ?_
        iterate 3 refine a_op ?_
        refine a_go ?_
        refine a_go ?_
        refine a_op ?_
        refine a_op ?_
        refine a_go ?_
        refine a_go ?_
        refine a_go ?_
        refine a_go ?_
        refine a_go ?_
        refine a_callgo [] false (by have h := sameR_good Γ 1000000 y (makeN s 31 ns) (by rw [List.length_set] at hys; omega) (by omega) (by omega); rw [got_turn hm hrg hat hc hy] at h; exact h) ?_
        refine a_go ?_
        refine a_go ?_
        refine a_op ?_
        refine a_op ?_
        refine a_callgo [] false (awake_good Γ hE) ?_
        refine a_op ?_
        refine a_op ?_
        refine s_nil (r_false ?_)
        refine q_next ?_
        refine k_ret ?_
        refine ⟨.inr rfl, a_ret [] (by rw [results4]) ?_ ?_ ?_⟩ <;> simp [-List.map_set, -List.map_replicate, -List.reduceReplicate, -List.map_map, -List.map_drop, -List.map_take, num, bol, txt, w8, w16, w32, w64, lst, cls, rowO, boxO, List.take_of_length_le, Wr.cellsL_len, wA, Wr.k_mk, Wr.n_mk, Wr.s_mk, Wr.l_mk, Wr.cellsL, Wr.z_eq]

end Go.Proofs.Tryd
