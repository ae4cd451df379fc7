/- Contracts of this program's functions. -/
import Derived.Test.YtkdmgjjcjjeopaaDoorSL0
set_option maxHeartbeats 4000000
set_option maxRecDepth 100000
set_option linter.unusedVariables false
set_option linter.unusedSimpArgs false
namespace Go.Proofs.Tryd
open Go Go.Ot
attribute [local irreducible] wpK wpS seqK blockK loopF regK meetK OpSpec Le rdS lpW rdW got mayS mayW ixF putS putW nb nbS u64 fmT PutW sameW sameL manyS manyN mfold
theorem awake_good (Γ : Gl) (hE : EG Γ)  : Go.Ot.Good Γ prog 10 [] [] (.t (bol true)) [] [] := by
  refine a_body F.mix func10 (by rfl) ntmps10 ?_
  refine k_seq ?_
  refine k_region rfl ?_
  refine a_op ?_
  refine s_nil (r_false ?_)
  refine q_next ?_
  refine k_seq ?_
  refine k_region rfl ?_
  refine a_call [] false (Text_good Γ [97]) ?_
  refine a_call [] false (Num_good Γ (-2)) ?_
  refine a_op ?_
  refine a_call [.r 1 2 0] true (List_good Γ [.mk 2 0 [97] [], .mk 1 (-2) [] []] (by decide)) ?_
  refine a_call [] false (Put_good Γ W0 (fun _ => by have := W0_put; omega)) ?_
  refine a_call [] true ((by have h := Get_good Γ hE (PutW W0) (W0_len); rw [W0_got, Option.getD_some, Option.isSome_some, W0_eq] at h; exact h)) ?_
  iterate 6 refine a_op ?_
  refine s_nil (r_false ?_)
  refine q_next ?_
  refine k_seq ?_
  refine k_region rfl ?_
  refine a_call [] false (Num_good Γ 1) ?_
  refine a_call [] false ((by have h := Put_good Γ (.mk 1 1 [] []) (fun _ => by decide +kernel); rw [N1_put] at h; exact h)) ?_
  refine a_op ?_
  refine a_op ?_
  refine a_go ?_
  refine a_op ?_
  refine a_op ?_
  refine a_go ?_
  refine a_go ?_
  refine a_go ?_
  refine a_go ?_
  refine a_op ?_
  refine a_op ?_
  refine a_go ?_
  refine a_go ?_
  refine a_go ?_
  refine a_go ?_
  refine a_go ?_
  refine a_go ?_
  refine a_op ?_
  refine a_op ?_
  refine a_go ?_
  refine a_go ?_
  refine a_go ?_
  refine a_go ?_
  refine a_go ?_
  refine a_go ?_
  refine a_op ?_
  refine a_op ?_
  refine s_nil (r_false ?_)
  refine q_next ?_
  refine k_ret ?_
  refine ⟨.inr rfl, a_ret [] (by rw [results10]) ?_ ?_ ?_⟩ <;> simp [-List.map_set, -List.map_replicate, -List.reduceReplicate, -List.map_map, -List.map_drop, -List.map_take, num, bol, txt, w8, w16, w32, w64, lst, cls, rowO, boxO, List.take_of_length_le, Wr.cellsL_len, wA, Wr.k_mk, Wr.n_mk, Wr.s_mk, Wr.l_mk, Wr.cellsL, Wr.z_eq]

theorem bytes_good (Γ : Gl) (hE : EG Γ) (s : List UInt8) : Go.Ot.Good Γ prog 3 [.t (txt s)] [] (.t (bol true)) [] [] := by
  refine a_body F.mix func3 (by rfl) ntmps3 ?_
  refine k_seq ?_
  refine k_region rfl ?_
  refine a_op ?_
  refine s_nil (r_false ?_)
  refine q_next ?_
  refine k_seq ?_
  refine k_seq ?_
  refine k_region rfl ?_
  iterate 3 refine a_op ?_
  refine s_nil (r_false ?_)
  refine q_next ?_
  refine a_if (fun hc0 => ?_) (fun hc0 => ?_)
  · (try simp only [Bool.and_eq_true, Bool.or_eq_true, Bool.or_eq_false_iff, Bool.not_eq_true', Bool.not_eq_false', dec_t, dec_f, Bool.and_eq_false_imp, beq_iff_eq, beq_eq_false_iff_ne, ne_eq] at hc0)
    refine k_seq ?_
    refine k_region rfl ?_
    refine a_call [] false (awake_good Γ hE) ?_
    refine a_op ?_
    refine s_nil (r_false ?_)
    refine q_next ?_
    refine k_ret ?_
    refine q_seq_ret ?_
    refine ⟨.inr rfl, a_ret [] (by rw [results3]) ?_ ?_ ?_⟩ <;> simp [-List.map_set, -List.map_replicate, -List.reduceReplicate, -List.map_map, -List.map_drop, -List.map_take, num, bol, txt, w8, w16, w32, w64, lst, cls, rowO, boxO, List.take_of_length_le, Wr.cellsL_len, wA, Wr.k_mk, Wr.n_mk, Wr.s_mk, Wr.l_mk, Wr.cellsL, Wr.z_eq]
  · (try simp only [Bool.and_eq_true, Bool.or_eq_true, Bool.or_eq_false_iff, Bool.not_eq_true', Bool.not_eq_false', dec_t, dec_f, Bool.and_eq_false_imp, beq_iff_eq, beq_eq_false_iff_ne, ne_eq] at hc0)
    have hs : s.length ≤ 800 := by omega
    refine k_skip ?_
    refine q_next ?_
    refine k_seq ?_
    refine k_region rfl ?_
    rcases hx : got s with _ | w
    · try have hsz := got_sz hx
      refine a_op ?_
      refine a_call [] true ((by have h := Get_good Γ hE (s) (by omega); rw [hx, Option.getD_none, Option.isSome_none] at h; exact h)) ?_
      iterate 6 refine a_op ?_
      refine s_nil (r_false ?_)
      refine q_next ?_
      refine k_seq ?_
      refine k_region rfl ?_
      refine a_op ?_
      refine a_call [] true ((by have h := GetR_good Γ s (by omega); rw [hx, gotD_none] at h; exact h)) ?_
      refine a_op ?_
      refine a_op ?_
      refine s_nil (r_false ?_)
      refine q_next ?_
      refine k_seq ?_
      refine k_region rfl ?_
      iterate 5 refine a_op ?_
      refine a_go ?_
      refine a_go ?_
      refine a_go ?_
      refine a_callgo [] false (by have h := sameR_good Γ 1000000 Wr.z Wr.z (by decide) (by omega) (by decide); rw [sameW_self] at h; exact h) ?_
      refine a_op ?_
      refine a_op ?_
      refine a_callgo [] false (awake_good Γ hE) ?_
      refine a_op ?_
      refine a_op ?_
      refine s_nil (r_false ?_)
      refine q_next ?_
      refine k_ret ?_
      refine ⟨.inr rfl, a_ret [] (by rw [results3]) ?_ ?_ ?_⟩ <;> simp [-List.map_set, -List.map_replicate, -List.reduceReplicate, -List.map_map, -List.map_drop, -List.map_take, num, bol, txt, w8, w16, w32, w64, lst, cls, rowO, boxO, List.take_of_length_le, Wr.cellsL_len, wA, Wr.k_mk, Wr.n_mk, Wr.s_mk, Wr.l_mk, Wr.cellsL, Wr.z_eq]
    · try have hsz := got_sz hx
      refine a_op ?_
      refine a_call [] true ((by have h := Get_good Γ hE (s) (by omega); rw [hx, Option.getD_some, Option.isSome_some] at h; exact h)) ?_
      iterate 6 refine a_op ?_
      refine s_nil (r_false ?_)
      refine q_next ?_
      refine k_seq ?_
      refine k_region rfl ?_
      refine a_op ?_
      refine a_call [] true ((by have h := GetR_good Γ s (by omega); rw [hx, gotD_some] at h; exact h)) ?_
      refine a_op ?_
      refine a_op ?_
      refine s_nil (r_false ?_)
      refine q_next ?_
      refine k_seq ?_
      refine k_region rfl ?_
      iterate 5 refine a_op ?_
      refine a_go ?_
      refine a_go ?_
      refine a_go ?_
      refine a_callgo [] false (by have h := sameR_good Γ 1000000 w w (by omega) (by omega) (by omega); rw [sameW_self] at h; exact h) ?_
      refine a_op ?_
      refine a_op ?_
      refine a_callgo [] false (awake_good Γ hE) ?_
      refine a_op ?_
      refine a_op ?_
      refine s_nil (r_false ?_)
      refine q_next ?_
      refine k_ret ?_
      refine ⟨.inr rfl, a_ret [] (by rw [results3]) ?_ ?_ ?_⟩ <;> simp [-List.map_set, -List.map_replicate, -List.reduceReplicate, -List.map_map, -List.map_drop, -List.map_take, num, bol, txt, w8, w16, w32, w64, lst, cls, rowO, boxO, List.take_of_length_le, Wr.cellsL_len, wA, Wr.k_mk, Wr.n_mk, Wr.s_mk, Wr.l_mk, Wr.cellsL, Wr.z_eq]

theorem all_good (Γ : Gl) (hE : EG Γ) (a b : Wr) : Go.Ot.Good Γ prog 9 [wA a, wA b] [] (.t (bol true)) [] [] := by
  refine a_body F.mix func9 (by rfl) ntmps9 ?_
  refine k_seq ?_
  refine k_region rfl ?_
  iterate 3 refine a_op ?_
  refine s_nil (r_false ?_)
  refine q_next ?_
  refine k_seq ?_
  refine k_seq ?_
  refine k_region rfl ?_
  have h3 : 300 < manyN 21 a ∨ (manyN 21 a ≤ 300 ∧ 300 < manyN 21 b) ∨ (manyN 21 a ≤ 300 ∧ manyN 21 b ≤ 300) := by omega
  rcases h3 with ha | ⟨ha, hb⟩ | ⟨ha, hb⟩
  · skip
    refine a_op ?_
    refine a_call [] false (Great_good Γ a) ?_
    refine a_op ?_
    refine a_no ?_
    refine a_no ?_
    refine a_op ?_
    refine s_nil (r_false ?_)
    refine q_next ?_
    refine a_true ?_
    refine k_seq ?_
    refine k_region rfl ?_
    refine a_call [] false (awake_good Γ hE) ?_
    refine a_op ?_
    refine s_nil (r_false ?_)
    refine q_next ?_
    refine k_ret ?_
    refine q_seq_ret ?_
    refine ⟨.inr rfl, a_ret [] (by rw [results9]) ?_ ?_ ?_⟩ <;> simp [-List.map_set, -List.map_replicate, -List.reduceReplicate, -List.map_map, -List.map_drop, -List.map_take, num, bol, txt, w8, w16, w32, w64, lst, cls, rowO, boxO, List.take_of_length_le, Wr.cellsL_len, wA, Wr.k_mk, Wr.n_mk, Wr.s_mk, Wr.l_mk, Wr.cellsL, Wr.z_eq]
  · skip
    refine a_op ?_
    refine a_call [] false (Great_good Γ a) ?_
    refine a_op ?_
    refine a_go ?_
    refine a_callgo [] false (Great_good Γ b) ?_
    refine a_op ?_
    refine s_nil (r_false ?_)
    refine q_next ?_
    refine a_true ?_
    refine k_seq ?_
    refine k_region rfl ?_
    refine a_call [] false (awake_good Γ hE) ?_
    refine a_op ?_
    refine s_nil (r_false ?_)
    refine q_next ?_
    refine k_ret ?_
    refine q_seq_ret ?_
    refine ⟨.inr rfl, a_ret [] (by rw [results9]) ?_ ?_ ?_⟩ <;> simp [-List.map_set, -List.map_replicate, -List.reduceReplicate, -List.map_map, -List.map_drop, -List.map_take, num, bol, txt, w8, w16, w32, w64, lst, cls, rowO, boxO, List.take_of_length_le, Wr.cellsL_len, wA, Wr.k_mk, Wr.n_mk, Wr.s_mk, Wr.l_mk, Wr.cellsL, Wr.z_eq]
  · skip
    refine a_op ?_
    refine a_call [] false (Great_good Γ a) ?_
    refine a_op ?_
    refine a_go ?_
    refine a_callgo [] false (Great_good Γ b) ?_
    refine a_op ?_
    refine s_nil (r_false ?_)
    refine q_next ?_
    refine a_false ?_
    refine k_skip ?_
    refine q_next ?_
    refine k_seq ?_
    refine k_region rfl ?_
    obtain ⟨ha1, ha2⟩ := small_of ha
    obtain ⟨hb1, hb2⟩ := small_of hb
    refine a_opd ?_
    refine a_calld [] false (May_good Γ a) ?_
    refine a_opd ?_
    refine a_calld [] false (MayR_good Γ a (by omega)) ?_
    refine a_opd ?_
    refine a_opd ?_
    refine a_god ?_
    refine a_callgod [] false (Put_good Γ a (fun _ => by omega)) ?_
    refine a_god ?_
    refine a_callgod [] false (PutR_good Γ a (by omega) (fun _ => by omega)) ?_
    refine a_god ?_
    refine a_opd ?_
    refine a_opd ?_
    refine a_god ?_
    refine a_god ?_
    refine a_callgod [] false (same_good Γ 1000000 a b (by omega) (by omega) (by omega)) ?_
    refine a_god ?_
    refine a_god ?_
    refine a_callgod [] false (sameR_good Γ 1000000 a b (by omega) (by omega) (by omega)) ?_
    refine a_god ?_
    refine a_opd ?_
    refine a_opd ?_
    refine a_god ?_
    refine a_god ?_
    refine a_callgod [] false ((by have h := same_good Γ 1000000 a a (by omega) (by omega) (by omega); rw [sameW_self] at h; exact h)) ?_
    refine a_opd ?_
    refine a_opd ?_
    refine a_callgod [] false (awake_good Γ hE) ?_
    refine a_opd ?_
    refine a_opd ?_
    refine s_nil (r_true (by kernel_rfl) ?_)
    refine q_next ?_
    refine k_ret ?_
    refine ⟨.inr rfl, a_ret [] (by rw [results9]) ?_ ?_ ?_⟩ <;> simp [-List.map_set, -List.map_replicate, -List.reduceReplicate, -List.map_map, -List.map_drop, -List.map_take, num, bol, txt, w8, w16, w32, w64, lst, cls, rowO, boxO, List.take_of_length_le, Wr.cellsL_len, wA, Wr.k_mk, Wr.n_mk, Wr.s_mk, Wr.l_mk, Wr.cellsL, Wr.z_eq]

theorem numbers_good (Γ : Gl) (hE : EG Γ) (n : Int) (h1 : -9223372036854775808 ≤ n) (h2 : n ≤ 9223372036854775807) (s : List UInt8) (c : UInt8) : Go.Ot.Good Γ prog 6 [.t (num n), .t (txt s), .t (w8 c)] [] (.t (bol true)) [] [] := by
  refine a_body F.mix func6 (by rfl) ntmps6 ?_
  refine k_seq ?_
  refine k_region rfl ?_
  refine a_op ?_
  refine s_nil (r_false ?_)
  refine q_next ?_
  refine k_seq ?_
  refine k_seq ?_
  refine k_region rfl ?_
  iterate 3 refine a_op ?_
  refine s_nil (r_false ?_)
  refine q_next ?_
  refine a_if (fun hc0 => ?_) (fun hc0 => ?_)
  · (try simp only [Bool.and_eq_true, Bool.or_eq_true, Bool.or_eq_false_iff, Bool.not_eq_true', Bool.not_eq_false', dec_t, dec_f, Bool.and_eq_false_imp, beq_iff_eq, beq_eq_false_iff_ne, ne_eq] at hc0)
    refine k_seq ?_
    refine k_region rfl ?_
    refine a_call [] false (awake_good Γ hE) ?_
    refine a_op ?_
    refine s_nil (r_false ?_)
    refine q_next ?_
    refine k_ret ?_
    refine q_seq_ret ?_
    refine ⟨.inr rfl, a_ret [] (by rw [results6]) ?_ ?_ ?_⟩ <;> simp [-List.map_set, -List.map_replicate, -List.reduceReplicate, -List.map_map, -List.map_drop, -List.map_take, num, bol, txt, w8, w16, w32, w64, lst, cls, rowO, boxO, List.take_of_length_le, Wr.cellsL_len, wA, Wr.k_mk, Wr.n_mk, Wr.s_mk, Wr.l_mk, Wr.cellsL, Wr.z_eq]
  · (try simp only [Bool.and_eq_true, Bool.or_eq_true, Bool.or_eq_false_iff, Bool.not_eq_true', Bool.not_eq_false', dec_t, dec_f, Bool.and_eq_false_imp, beq_iff_eq, beq_eq_false_iff_ne, ne_eq] at hc0)
    have hs0 : s.length ≤ 600 := by omega
    have hs : s.length ≤ 1048576 := by omega
    have hpl := txt_plen hs
    have hc8 := UInt8.toNat_lt c
    obtain ⟨X, hX⟩ : ∃ X, c.toNat % (s.length + 5) = X := ⟨_, rfl⟩
    have ht := tmod_max (c := c.toNat) (n := s.length + 5) (m := (PutW (.mk 2 0 s [])).length) hpl (by omega)
    have hcm : c.toNat % (s.length + 5) < s.length + 5 := Nat.mod_lt _ (by omega)
    rw [hX] at ht hcm
    refine k_skip ?_
    refine q_next ?_
    refine k_seq ?_
    refine k_region rfl ?_
    refine a_op ?_
    refine a_call [] false (Num_good Γ n) ?_
    refine a_call [] false (Put_good Γ (.mk 1 n [] []) (fun _ => by have := num_plen n; rw [PutW_t (num_may n)] at this; omega)) ?_
    refine a_call [] true ((by have h := Get_good Γ hE (PutW (.mk 1 n [] [])) (by rw [num_plen]; omega); rw [num_got h1 h2, Option.getD_some, Option.isSome_some] at h; exact h)) ?_
    iterate 6 refine a_op ?_
    refine s_nil (r_false ?_)
    refine q_next ?_
    refine k_seq ?_
    refine k_region rfl ?_
    refine a_op ?_
    refine a_call [] false (Text_good Γ s) ?_
    refine a_call [] false (Put_good Γ (.mk 2 0 s []) (fun _ => by have := txt_plen hs; rw [PutW_t (txt_may hs)] at this; omega)) ?_
    refine a_call [] true ((by have h := Get_good Γ hE (PutW (.mk 2 0 s [])) (by rw [txt_plen hs]; omega); rw [txt_got hs, Option.getD_some, Option.isSome_some] at h; exact h)) ?_
    iterate 6 refine a_op ?_
    refine s_nil (r_false ?_)
    refine q_next ?_
    refine k_seq ?_
    refine k_region rfl ?_
    refine a_op ?_
    refine a_call [] false (Text_good Γ s) ?_
    refine a_call [] false (Put_good Γ (.mk 2 0 s []) (fun _ => by have := txt_plen hs; rw [PutW_t (txt_may hs)] at this; omega)) ?_
    refine a_op ?_
    refine s_nil (r_false ?_)
    refine q_next ?_
    refine k_seq ?_
    refine k_region rfl ?_
    iterate 6 refine a_op ?_
    refine a_op (hs := by (simp (disch := first | omega | (simp only [List.length_drop, List.length_take, List.length_map, List.length_append, List.length_cons, List.length_nil, List.length_replicate, List.length_set] <;> omega) | (simp only [push_cast] <;> omega) | fail) only [push_cast, reduceCtorEq, Nat.reduceAdd, Nat.reduceSub, Nat.reduceMul, Nat.reduceEqDiff, Nat.reduceLT, Nat.reduceLeDiff, Nat.reduceMod, Nat.reduceDiv, Int.reduceLE, Int.reduceLT, Int.reduceEq, Int.reduceToNat, Int.reduceAdd, Int.reduceSub, Int.reduceMul, Int.reduceNeg, ht] <;> rfl)) ?_
    refine a_op ?_
    refine a_call [] true ((by have h := Get_good Γ hE ((PutW (.mk 2 0 s [])).take X) (by rw [List.length_take]; omega); rw [got_take (txt_got hs) (by rw [hpl]; exact hcm), Option.getD_none, Option.isSome_none] at h; exact h)) ?_
    iterate 6 refine a_op ?_
    refine s_nil (r_false ?_)
    refine q_next ?_
    refine k_seq ?_
    refine k_region rfl ?_
    refine a_op ?_
    refine a_call [] false (Num_good Γ n) ?_
    refine a_call [] false (Put_good Γ (.mk 1 n [] []) (fun _ => by have := num_plen n; rw [PutW_t (num_may n)] at this; omega)) ?_
    refine a_op (hs := by (simp (disch := first | omega | (simp only [List.length_drop, List.length_take, List.length_map, List.length_append, List.length_cons, List.length_nil, List.length_replicate, List.length_set] <;> omega) | (simp only [push_cast] <;> omega) | fail) only [push_cast, reduceCtorEq, Nat.reduceAdd, Nat.reduceSub, Nat.reduceMul, Nat.reduceEqDiff, Nat.reduceLT, Nat.reduceLeDiff, Nat.reduceMod, Nat.reduceDiv, Int.reduceLE, Int.reduceLT, Int.reduceEq, Int.reduceToNat, Int.reduceAdd, Int.reduceSub, Int.reduceMul, Int.reduceNeg, num_plen] <;> rfl)) ?_
    refine a_op ?_
    refine a_op ?_
    refine a_go ?_
    refine a_op ?_
    refine a_op ?_
    refine a_go ?_
    refine a_go ?_
    refine a_go ?_
    refine a_go ?_
    refine a_op ?_
    refine a_op ?_
    refine a_go ?_
    refine a_go ?_
    refine a_go ?_
    refine a_op ?_
    refine a_op ?_
    refine a_go ?_
    refine a_op ?_
    refine a_op ?_
    refine a_go ?_
    refine a_go ?_
    refine a_go ?_
    refine a_go ?_
    refine a_op ?_
    refine a_op ?_
    refine a_go ?_
    refine a_go ?_
    refine a_go ?_
    refine a_op ?_
    refine a_op ?_
    refine a_go ?_
    refine a_go (hs := by (simp (disch := first | omega | (simp only [List.length_drop, List.length_take, List.length_map, List.length_append, List.length_cons, List.length_nil, List.length_replicate, List.length_set] <;> omega) | (simp only [push_cast] <;> omega) | fail) only [push_cast, reduceCtorEq, Nat.reduceAdd, Nat.reduceSub, Nat.reduceMul, Nat.reduceEqDiff, Nat.reduceLT, Nat.reduceLeDiff, Nat.reduceMod, Nat.reduceDiv, Int.reduceLE, Int.reduceLT, Int.reduceEq, Int.reduceToNat, Int.reduceAdd, Int.reduceSub, Int.reduceMul, Int.reduceNeg, hpl] <;> rfl)) ?_
    refine a_go ?_
    refine a_go ?_
    refine a_go ?_
    refine a_go ?_
    refine a_op ?_
    refine a_op ?_
    refine a_go ?_
    refine a_go ?_
    refine a_op ?_
    refine a_op ?_
    refine a_callgo [] false (awake_good Γ hE) ?_
    refine a_op ?_
    refine a_op ?_
    refine s_nil (r_false ?_)
    refine q_next ?_
    refine k_ret ?_
    refine ⟨.inr rfl, a_ret [] (by rw [results6]) ?_ ?_ ?_⟩ <;> simp [-List.map_set, -List.map_replicate, -List.reduceReplicate, -List.map_map, -List.map_drop, -List.map_take, num, bol, txt, w8, w16, w32, w64, lst, cls, rowO, boxO, List.take_of_length_le, Wr.cellsL_len, wA, Wr.k_mk, Wr.n_mk, Wr.s_mk, Wr.l_mk, Wr.cellsL, Wr.z_eq]

end Go.Proofs.Tryd
