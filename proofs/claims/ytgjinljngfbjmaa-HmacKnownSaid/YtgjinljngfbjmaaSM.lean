import Derived.Test.YtgjinljngfbjmaaSL
set_option maxHeartbeats 4000000
set_option maxRecDepth 100000
set_option linter.unusedVariables false
set_option linter.unusedSimpArgs false
namespace Go.Proofs.Try
open Go Go.Ot
theorem dec_pos {p : Prop} [Decidable p] (h : p) : decide p = true := decide_eq_true h
theorem dec_neg {p : Prop} [Decidable p] (h : ¬ p) : decide p = false := decide_eq_false h
attribute [push_cast] dec_pos dec_neg
theorem e0 : (hmacB [74, 101, 102, 101] ([[119, 104, 97, 116, 32, 100, 111, 32, 121, 97, 32, 119, 97, 110, 116, 32], [102, 111, 114, 32, 110, 111, 116, 104, 105, 110, 103, 63]] : List (List UInt8)).flatten).take 4 = [UInt8.ofInt 91, UInt8.ofInt 220, UInt8.ofInt 193, UInt8.ofInt 70] := by decide +kernel
attribute [local irreducible] wpK wpS seqK blockK loopF regK meetK OpSpec Le sched wordTo rnds addTo rotr chunks takeB be64 outB sha padB xorTo keyB hmacB orTo keyOf
theorem awake_good (Γ : Gl)  : Go.Ot.Good Γ prog 9 [] [] (.t (bol true)) [] [] := by
  refine a_body F.mix func9 (by rfl) ntmps9 ?_
  refine k_seq ?_
  refine k_region rfl ?_
  refine a_op ?_
  refine s_nil (r_false ?_)
  refine q_next ?_
  refine k_seq ?_
  refine k_region rfl ?_
  refine a_op ?_
  refine a_call [.r 1 0 0] false (mac_good Γ [74, 101, 102, 101] [[119, 104, 97, 116, 32, 100, 111, 32, 121, 97, 32, 119, 97, 110, 116, 32], [102, 111, 114, 32, 110, 111, 116, 104, 105, 110, 103, 63]] (by decide) (by decide) (by decide)) ?_
  refine a_op ?_
  refine s_nil (r_false ?_)
  refine q_next ?_
  refine k_seq ?_
  refine k_region rfl ?_
  iterate 4 refine a_opd ?_
  first | refine a_god ?_ | refine a_nod ?_ | refine a_mayd ?_
  first | refine a_god ?_ | refine a_nod ?_ | refine a_mayd ?_
  first | refine a_god ?_ | refine a_nod ?_ | refine a_mayd ?_
  first | refine a_textgod ?_ | refine a_textsgod ?_
  refine a_god (hs := by (simp only [push_cast, e0] <;> rfl)) ?_
  refine a_opd ?_
  refine a_opd ?_
  refine s_nil (r_true (by kernel_rfl) ?_)
  refine q_next ?_
  refine k_ret ?_
  refine ⟨.inr rfl, a_ret [] (by rw [results9]) ?_ ?_ ?_⟩ <;> simp [-List.map_set, -List.map_replicate, -List.reduceReplicate, -List.map_map, -List.map_drop, -List.map_take, num, bol, txt, w8, w16, w32, w64, lst, cls, rowO, boxO, List.take_of_length_le]

theorem hall_good (Γ : Gl) (key s m : List UInt8) (hk : key.length ≤ maxLen) (hs : s.length ≤ maxLen) (hm : m.length ≤ maxLen) : Go.Ot.Good Γ prog 3 [.t (txt key), .t (txt s), .t (txt m)] [] (.t (bol true)) [] [] := by
  refine a_body F.mix func3 (by rfl) ntmps3 ?_
  refine k_seq ?_
  refine k_region rfl ?_
  refine a_op ?_
  refine s_nil (r_false ?_)
  refine q_next ?_
  refine k_seq ?_
  refine k_seq ?_
  refine k_region rfl ?_
  iterate 4 refine a_op ?_
  first | refine a_go ?_ | refine a_no ?_ | refine a_may ?_
  first | refine a_go ?_ | refine a_no ?_ | refine a_may ?_
  first | refine a_go ?_ | refine a_no ?_ | refine a_may ?_
  refine a_op ?_
  refine a_op ?_
  first | refine a_go ?_ | refine a_no ?_ | refine a_may ?_
  first | refine a_go ?_ | refine a_no ?_ | refine a_may ?_
  first | refine a_go ?_ | refine a_no ?_ | refine a_may ?_
  refine a_op ?_
  refine s_nil (r_false ?_)
  refine q_next ?_
  refine a_if (fun hc0 => ?_) (fun hc0 => ?_)
  · (try simp only [Bool.and_eq_true, Bool.or_eq_true, Bool.or_eq_false_iff, Bool.not_eq_true', Bool.not_eq_false', dec_t, dec_f, Bool.and_eq_false_imp, beq_iff_eq, beq_eq_false_iff_ne, ne_eq] at hc0)
    refine k_seq ?_
    refine k_region rfl ?_
    refine a_call [] false (awake_good Γ) ?_
    refine a_op ?_
    refine s_nil (r_false ?_)
    refine q_next ?_
    refine k_ret ?_
    refine q_seq_ret ?_
    refine ⟨.inr rfl, a_ret [] (by rw [results3]) ?_ ?_ ?_⟩ <;> simp [-List.map_set, -List.map_replicate, -List.reduceReplicate, -List.map_map, -List.map_drop, -List.map_take, num, bol, txt, w8, w16, w32, w64, lst, cls, rowO, boxO, List.take_of_length_le]
  · (try simp only [Bool.and_eq_true, Bool.or_eq_true, Bool.or_eq_false_iff, Bool.not_eq_true', Bool.not_eq_false', dec_t, dec_f, Bool.and_eq_false_imp, beq_iff_eq, beq_eq_false_iff_ne, ne_eq] at hc0)
    refine k_skip ?_
    refine q_next ?_
    refine k_seq ?_
    refine k_region rfl ?_
    iterate 4 refine a_op ?_
    refine a_call [.r 3 3 0] false (mac_good Γ key [s, m] (by omega) (by simp) (by rw [flat_two, List.length_append]; omega)) ?_
    iterate 4 refine a_op ?_
    refine a_call [] false (refmac_good Γ key (s ++ m) (by omega) (by rw [List.length_append]; omega)) ?_
    refine a_op (hs := by (simp only [push_cast, flat_two] <;> rfl)) ?_
    refine a_op ?_
    first | refine a_go ?_ | refine a_no ?_ | refine a_may ?_
    refine a_callgo [] false (mac_good Γ key [] (by omega) (by simp) (by simp)) ?_
    first | refine a_go ?_ | refine a_no ?_ | refine a_may ?_
    refine a_callgo [] false (refmac_good Γ key [] (by omega) (by simp)) ?_
    refine a_go (hs := by (simp only [push_cast, List.flatten_nil] <;> rfl)) ?_
    refine a_op ?_
    refine a_op ?_
    refine a_callgo [] false (awake_good Γ) ?_
    refine a_op ?_
    refine a_op ?_
    refine s_nil (r_false ?_)
    refine q_next ?_
    refine k_ret ?_
    refine ⟨.inr rfl, a_ret [] (by rw [results3]) ?_ ?_ ?_⟩ <;> simp [-List.map_set, -List.map_replicate, -List.reduceReplicate, -List.map_map, -List.map_drop, -List.map_take, num, bol, txt, w8, w16, w32, w64, lst, cls, rowO, boxO, List.take_of_length_le]

def bTo (k z : Nat) : Nat → List UInt8
  | 0 => List.replicate (k + z) 0
  | i + 1 => (bTo k z i).set i (UInt8.ofInt ((i : Int) + 1))
theorem bTo_len (k z : Nat) : ∀ i, (bTo k z i).length = k + z
  | 0 => by simp [bTo]
  | i + 1 => by simp [bTo, bTo_len k z i]
theorem bTo_drop (k z : Nat) : ∀ i, i ≤ k → (bTo k z i).drop k = List.replicate z 0
  | 0, _ => by simp [bTo]
  | i + 1, h => by
    rw [bTo, List.drop_set_of_lt (by omega)]
    exact bTo_drop k z i (by omega)
theorem keyB_zeros (c : List UInt8) (z : Nat) (h : c.length + z ≤ 64) : keyB (c ++ List.replicate z 0) = keyB c := by
  simp only [keyB]
  rw [List.take_of_length_le (by simp; omega), List.take_of_length_le (by omega)]
  simp only [List.drop_replicate, List.length_append, List.length_replicate, List.append_assoc, List.replicate_append_replicate]
  congr 2
  omega
theorem hmac_zeros (k z : Nat) (s : List UInt8) (h : k + z ≤ 64) : hmacB (bTo k z k) s = hmacB ((bTo k z k).take k) s := by
  have hl := bTo_len k z k
  have hd := bTo_drop k z k (Nat.le_refl _)
  have ht : ((bTo k z k).take k).length = k := by rw [List.length_take, hl]; omega
  have e : bTo k z k = (bTo k z k).take k ++ List.replicate z 0 := by rw [← hd, List.take_append_drop]
  have h1 : keyOf (bTo k z k) = bTo k z k := keyOf_small (by omega)
  have h2 : keyOf ((bTo k z k).take k) = (bTo k z k).take k := keyOf_small (by omega)
  have h3 : keyB (bTo k z k) = keyB ((bTo k z k).take k) := by
    rw [e, keyB_zeros _ _ (by rw [ht]; omega), ← e]
  rw [hmacB, hmacB, h1, h2, h3]
attribute [push_cast] bTo_len
theorem keys_good (Γ : Gl) (n : UInt8) (s : List UInt8) (z : UInt8) (hs : s.length ≤ maxLen) : Go.Ot.Good Γ prog 4 [.t (w8 n), .t (txt s), .t (w8 z)] [] (.t (bol true)) [] [] := by
  have hn := UInt8.toNat_lt n
  have hz := UInt8.toNat_lt z
  obtain ⟨kk, hkk, hk2⟩ : ∃ kk : Nat, (n.toNat : Int) % 140 = (kk : Int) ∧ kk < 140 := ⟨n.toNat % 140, by omega, by omega⟩
  obtain ⟨zz, hzz, hz2⟩ : ∃ zz : Nat, (z.toNat : Int) % 9 = (zz : Int) ∧ zz < 9 := ⟨z.toNat % 9, by omega, by omega⟩
  have hkz : ((n.toNat : Int) % 140 + (z.toNat : Int) % 9).toNat = kk + zz := by omega
  refine a_body F.mix func4 (by rfl) ntmps4 ?_
  refine k_seq ?_
  refine k_region rfl ?_
  refine a_op ?_
  refine s_nil (r_false ?_)
  refine q_next ?_
  refine k_seq ?_
  refine k_seq ?_
  refine k_region rfl ?_
  iterate 3 refine a_op ?_
  refine s_nil (r_false ?_)
  refine q_next ?_
  refine a_if (fun hc0 => ?_) (fun hc0 => ?_)
  · (try simp only [Bool.and_eq_true, Bool.or_eq_true, Bool.or_eq_false_iff, Bool.not_eq_true', Bool.not_eq_false', dec_t, dec_f, Bool.and_eq_false_imp, beq_iff_eq, beq_eq_false_iff_ne, ne_eq] at hc0)
    refine k_seq ?_
    refine k_region rfl ?_
    refine a_call [] false (awake_good Γ) ?_
    refine a_op ?_
    refine s_nil (r_false ?_)
    refine q_next ?_
    refine k_ret ?_
    refine q_seq_ret ?_
    refine ⟨.inr rfl, a_ret [] (by rw [results4]) ?_ ?_ ?_⟩ <;> simp [-List.map_set, -List.map_replicate, -List.reduceReplicate, -List.map_map, -List.map_drop, -List.map_take, num, bol, txt, w8, w16, w32, w64, lst, cls, rowO, boxO, List.take_of_length_le]
  · (try simp only [Bool.and_eq_true, Bool.or_eq_true, Bool.or_eq_false_iff, Bool.not_eq_true', Bool.not_eq_false', dec_t, dec_f, Bool.and_eq_false_imp, beq_iff_eq, beq_eq_false_iff_ne, ne_eq] at hc0)
    refine k_skip ?_
    refine q_next ?_
    refine k_seq ?_
    refine k_region rfl ?_
    iterate 4 refine a_op ?_
    refine s_nil (r_false ?_)
    refine q_next ?_
    refine k_seq ?_
    refine k_region rfl ?_
    iterate 6 refine a_op ?_
    rw [hkz, hkk]
    refine a_op ?_
    refine s_nil (r_false ?_)
    refine q_next ?_
    refine k_seq ?_
    refine k_seq ?_
    refine k_region rfl ?_
    refine a_op ?_
    refine s_nil (r_false ?_)
    refine q_next ?_
    refine k_block ?_
    refine k_loopF (fun sl L (i : Nat) => ⟨setAll (setBad sl [0, 2, 12, 13, 14, 15, 16, 17, 18, 19, 20, 21, 22, 23, 24, 25, 26, 27, 28, 29, 30, 31, 32, 33, 34, 35]) [(9, .t (num i))], Go.Ot.look (putL (.r 4 5 0) (rowO 5 w8 (bTo kk zz i)) L)⟩) (fun i => i ≤ kk) (fun i => kk - i) (0) (a_le ?_) ?_ ?_
    · refine le_same ?_ ?_ ?_ <;> simp [-List.map_set, -List.map_replicate, -List.reduceReplicate, -List.map_map, -List.map_drop, -List.map_take, num, bol, txt, w8, w16, w32, w64, lst, cls, rowO, boxO, List.take_of_length_le, bTo]
    · (first | omega | simp)
    · intro i hi
      have hb := bTo_len kk zz i
      refine a_st ?_
      refine k_seq ?_
      refine k_seq ?_
      refine k_region rfl ?_
      iterate 3 refine a_op ?_
      refine s_nil (r_false ?_)
      refine q_next ?_
      refine a_if (fun hc1 => ?_) (fun hc1 => ?_)
      · (try simp only [Bool.and_eq_true, Bool.or_eq_true, Bool.or_eq_false_iff, Bool.not_eq_true', Bool.not_eq_false', dec_t, dec_f, Bool.and_eq_false_imp, beq_iff_eq, beq_eq_false_iff_ne, ne_eq] at hc1)
        refine k_skip ?_
        refine q_next ?_
        refine k_seq ?_
        refine k_block ?_
        refine k_region rfl ?_
        iterate 4 refine a_op ?_
        refine a_cv8 ?_
        refine a_op ?_
        refine a_op ?_
        refine s_nil (r_false ?_)
        refine q_block (q_next ?_)
        refine k_region rfl ?_
        iterate 3 refine a_op ?_
        refine s_nil (r_false ?_)
        refine q_loopF (i + 1) (a_le ?_) ?_ ?_
        · refine le_same ?_ ?_ ?_ <;> simp [-List.map_set, -List.map_replicate, -List.reduceReplicate, -List.map_map, -List.map_drop, -List.map_take, num, bol, txt, w8, w16, w32, w64, lst, cls, rowO, boxO, List.take_of_length_le, bTo]
        · (first | omega | (simp_all <;> omega))
        · (first | omega | (simp only []; omega))
      · (try simp only [Bool.and_eq_true, Bool.or_eq_true, Bool.or_eq_false_iff, Bool.not_eq_true', Bool.not_eq_false', dec_t, dec_f, Bool.and_eq_false_imp, beq_iff_eq, beq_eq_false_iff_ne, ne_eq] at hc1)
        refine k_exit ?_
        refine q_seq_exit (q_loopF_exit (q_block_exit (q_next ?_)))
        refine k_seq ?_
        refine k_region rfl ?_
        obtain rfl : i = kk := by omega
        refine a_opd ?_
        first | refine a_textd ?_ | refine a_textsd ?_
        refine a_opd ?_
        refine a_opd ?_
        refine a_calld [.r 9 3 0] false (mac_good Γ (bTo i zz i) [s] (by omega) (by simp) (by rw [flat_one]; omega)) ?_
        iterate 3 refine a_opd ?_
        first | refine a_textd ?_ | refine a_textsd ?_
        refine a_opd ?_
        refine a_opd ?_
        refine a_calld [.r 9 10 0] false (mac_good Γ ((bTo i zz i).take i) [s] (by rw [List.length_take]; omega) (by simp) (by rw [flat_one]; omega)) ?_
        refine a_opd ?_
        refine a_opd ?_
        refine s_nil (r_true (by kernel_rfl) ?_)
        refine q_next ?_
        refine k_seq ?_
        refine k_region rfl ?_
        rcases Nat.lt_or_ge 64 (i + zz) with h6 | h6
        · skip
          refine a_op ?_
          refine a_op ?_
          first | refine a_text ?_ | refine a_texts ?_
          refine a_op ?_
          refine a_call [] false (refmac_good Γ (bTo i zz i) s (by omega) (by omega)) ?_
          refine a_op (hs := by (simp only [push_cast, flat_one] <;> rfl)) ?_
          refine a_op ?_
          first | refine a_go ?_ | refine a_no ?_ | refine a_may ?_
          first | refine a_go ?_ | refine a_no ?_ | refine a_may ?_
          first | refine a_go ?_ | refine a_no ?_ | refine a_may ?_
          first | refine a_go ?_ | refine a_no ?_ | refine a_may ?_
          first | refine a_textgo ?_ | refine a_textsgo ?_
          first | refine a_go ?_ | refine a_no ?_ | refine a_may ?_
          refine a_callgo [] false (refmac_good Γ ((bTo i zz i).take i) s (by rw [List.length_take]; omega) (by omega)) ?_
          refine a_go (hs := by (simp only [push_cast, flat_one] <;> rfl)) ?_
          refine a_op ?_
          refine a_op ?_
          first | refine a_go ?_ | refine a_no ?_ | refine a_may ?_
          first | refine a_go ?_ | refine a_no ?_ | refine a_may ?_
          first | refine a_go ?_ | refine a_no ?_ | refine a_may ?_
          first | refine a_go ?_ | refine a_no ?_ | refine a_may ?_
          refine a_no ?_
          refine a_no ?_
          refine a_no ?_
          first | refine a_go ?_ | refine a_no ?_ | refine a_may ?_
          refine a_op ?_
          refine a_op ?_
          refine a_callgo [] false (awake_good Γ) ?_
          refine a_op ?_
          refine a_op ?_
          refine s_nil (r_false ?_)
          refine q_next ?_
          refine k_ret ?_
          refine ⟨.inr rfl, a_ret [] (by rw [results4]) ?_ ?_ ?_⟩ <;> simp [-List.map_set, -List.map_replicate, -List.reduceReplicate, -List.map_map, -List.map_drop, -List.map_take, num, bol, txt, w8, w16, w32, w64, lst, cls, rowO, boxO, List.take_of_length_le]
        · skip
          refine a_op ?_
          refine a_op ?_
          first | refine a_text ?_ | refine a_texts ?_
          refine a_op ?_
          refine a_call [] false (refmac_good Γ (bTo i zz i) s (by omega) (by omega)) ?_
          refine a_op (hs := by (simp only [push_cast, flat_one] <;> rfl)) ?_
          refine a_op ?_
          first | refine a_go ?_ | refine a_no ?_ | refine a_may ?_
          first | refine a_go ?_ | refine a_no ?_ | refine a_may ?_
          first | refine a_go ?_ | refine a_no ?_ | refine a_may ?_
          first | refine a_go ?_ | refine a_no ?_ | refine a_may ?_
          first | refine a_textgo ?_ | refine a_textsgo ?_
          first | refine a_go ?_ | refine a_no ?_ | refine a_may ?_
          refine a_callgo [] false (refmac_good Γ ((bTo i zz i).take i) s (by rw [List.length_take]; omega) (by omega)) ?_
          refine a_go (hs := by (simp only [push_cast, flat_one] <;> rfl)) ?_
          refine a_op ?_
          refine a_op ?_
          first | refine a_go ?_ | refine a_no ?_ | refine a_may ?_
          first | refine a_go ?_ | refine a_no ?_ | refine a_may ?_
          first | refine a_go ?_ | refine a_no ?_ | refine a_may ?_
          first | refine a_go ?_ | refine a_no ?_ | refine a_may ?_
          first | refine a_go ?_ | refine a_no ?_ | refine a_may ?_
          first | refine a_go ?_ | refine a_no ?_ | refine a_may ?_
          refine a_go (hs := by (simp only [push_cast, flat_one, hmac_zeros i zz s h6] <;> rfl)) ?_
          first | refine a_go ?_ | refine a_no ?_ | refine a_may ?_
          refine a_op ?_
          refine a_op ?_
          refine a_callgo [] false (awake_good Γ) ?_
          refine a_op ?_
          refine a_op ?_
          refine s_nil (r_false ?_)
          refine q_next ?_
          refine k_ret ?_
          refine ⟨.inr rfl, a_ret [] (by rw [results4]) ?_ ?_ ?_⟩ <;> simp [-List.map_set, -List.map_replicate, -List.reduceReplicate, -List.map_map, -List.map_drop, -List.map_take, num, bol, txt, w8, w16, w32, w64, lst, cls, rowO, boxO, List.take_of_length_le]

theorem dec_beq {a b : List UInt8} : (decide (a = b) == (a == b)) = true := by by_cases h : a = b <;> simp [h]
theorem set_ne {a : List UInt8} {m : Nat} {b : UInt8} (h : m < a.length) (hb : b ≠ 0) : a ≠ a.set m (a.getD m 0 ^^^ b) := by
  intro e
  have h1 := congrArg (fun l : List UInt8 => l.getD m 0) e
  simp only [getD_set_self h] at h1
  have h2 : a.getD m 0 ^^^ a.getD m 0 = a.getD m 0 ^^^ (a.getD m 0 ^^^ b) := congrArg (a.getD m 0 ^^^ ·) h1
  rw [UInt8.xor_self, ← UInt8.xor_assoc, UInt8.xor_self, UInt8.zero_xor] at h2
  exact hb h2.symm
theorem set_xor0 {a : List UInt8} {m : Nat} : a.set m (a.getD m 0 ^^^ 0) = a := by
  rw [UInt8.xor_zero]; exact set_getD a m
theorem ne_snoc (a : List UInt8) (x : UInt8) : a ≠ a ++ [x] := fun e => by simpa using congrArg List.length e
end Go.Proofs.Try
