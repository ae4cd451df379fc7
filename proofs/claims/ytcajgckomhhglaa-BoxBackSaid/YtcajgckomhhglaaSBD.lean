import Derived.Test.YtcajgckomhhglaaSBA
set_option maxHeartbeats 4000000
set_option maxRecDepth 100000
set_option linter.unusedVariables false
set_option linter.unusedSimpArgs false
namespace Go.Proofs.Try
open Go Go.Ot
attribute [local irreducible] wpK wpS seqK blockK loopF regK meetK OpSpec Le sched wordTo rnds addTo rotr chunks takeB be64 outB sha padB xorTo keyB hmacB orTo keyOf chX hidB tagB eight sealB openB bytesB
theorem bback_good (Γ : Gl) (ks ns ad p : List UInt8) (w : UInt8) (at' : UInt16) (by' : UInt8) (b0 : ks.length ≤ maxLen) (b1 : ns.length ≤ maxLen) (b2 : ad.length ≤ maxLen) (b3 : p.length ≤ maxLen) : Go.Ot.Good Γ prog 4 [.t (lst w8 ks), .t (lst w8 ns), .t (txt ad), .t (txt p), .t (w8 w), .t (w16 at'), .t (w8 by')] [] (.t (bol true)) [] [] := by
  have h16 := at'.toNat_lt
  have hw := w.toNat_lt
  have lK := bytesB_len ks 64 64
  have lN := bytesB_len ns 12 12
  refine a_body F.mix func4 (by rfl) ntmps4 ?_
  refine k_seq ?_
  refine k_region rfl ?_
  refine a_op ?_
  refine s_nil (r_false ?_)
  refine q_next ?_
  refine k_seq ?_
  refine k_seq ?_
  refine k_region rfl ?_
  iterate 4 refine a_op ?_
  refine a_may ?_
  refine a_may ?_
  refine a_may ?_
  refine a_op ?_
  refine s_nil (r_false ?_)
  refine q_next ?_
  refine a_if (fun hc0 => ?_) (fun hc0 => ?_)
  · (try simp only [Bool.and_eq_true, Bool.or_eq_true, Bool.or_eq_false_iff, Bool.not_eq_true', Bool.not_eq_false', dec_t, dec_f, Bool.and_eq_false_imp, beq_iff_eq, beq_eq_false_iff_ne, ne_eq] at hc0)
    refine k_seq ?_
    refine k_region rfl ?_
    refine a_call [] false (awake_good Γ) ?_
    refine a_op ?_
    refine s_nil (r_false ?_)
    refine q_next ?_
    refine k_ret ?_
    refine q_seq_ret ?_
    refine ⟨.inr rfl, a_ret [] (by rw [results4]) ?_ ?_ ?_⟩ <;> simp [-List.map_set, -List.map_replicate, -List.reduceReplicate, -List.map_map, -List.map_drop, -List.map_take, num, bol, txt, w8, w16, w32, w64, lst, cls, rowO, boxO, List.take_of_length_le]
  · (try simp only [Bool.and_eq_true, Bool.or_eq_true, Bool.or_eq_false_iff, Bool.not_eq_true', Bool.not_eq_false', dec_t, dec_f, Bool.and_eq_false_imp, beq_iff_eq, beq_eq_false_iff_ne, ne_eq] at hc0)
    have hX := sealB_len (key := (bytesB ks 64 64)) (nonce := (bytesB ns 12 12)) (ad := ad) (b := p) (bytesB_len _ _ _) (bytesB_len _ _ _) (by omega)
    refine k_skip ?_
    refine q_next ?_
    refine k_seq ?_
    refine k_region rfl ?_
    refine a_op ?_
    refine a_call [] false (bytes_good Γ ks 64 (by omega) (by omega)) ?_
    refine a_op ?_
    refine a_call [] false (bytes_good Γ ns 12 (by omega) (by omega)) ?_
    refine a_op ?_
    refine a_op ?_
    refine s_nil (r_false ?_)
    refine q_next ?_
    refine k_seq ?_
    refine k_region rfl ?_
    iterate 4 refine a_op ?_
    refine a_call [] false (seal_good Γ (bytesB ks 64 64) (bytesB ns 12 12) ad p (by omega)) ?_
    refine a_op ?_
    refine s_nil (r_false ?_)
    refine q_next ?_
    refine k_seq ?_
    refine k_region rfl ?_
    iterate 4 refine a_op ?_
    refine a_call [] false (opened_good Γ (bytesB ks 64 64) (bytesB ns 12 12) ad p (bytesB_len _ _ _) (bytesB_len _ _ _) (by omega) (by omega)) ?_
    iterate 5 refine a_op ?_
    refine s_nil (r_false ?_)
    refine q_next ?_
    refine k_seq ?_
    refine k_seq ?_
    refine k_region rfl ?_
    iterate 3 refine a_op ?_
    refine a_go ?_
    refine a_go ?_
    first | refine a_go ?_ | refine a_no ?_ | refine a_may ?_
    refine a_op ?_
    refine a_op ?_
    refine a_go ?_
    refine a_go ?_
    refine a_go ?_
    refine a_go ?_
    refine a_go ?_
    refine a_go ?_
    refine a_op ?_
    refine a_op ?_
    refine a_go ?_
    refine a_go ?_
    refine a_go ?_
    refine a_go ?_
    refine a_go ?_
    refine a_callgo [] false (refseal_good Γ (bytesB ks 64 64) (bytesB ns 12 12) ad p (by omega)) ?_
    first | refine a_go ?_ | refine a_no ?_ | refine a_may ?_
    refine a_op ?_
    refine s_nil (r_false ?_)
    refine q_next ?_
    refine a_false ?_
    refine k_skip ?_
    refine q_next ?_
    refine k_seq ?_
    refine k_region rfl ?_
    iterate 10 refine a_op ?_
    refine s_nil (r_false ?_)
    refine q_next ?_
    refine k_seq ?_
    refine k_region rfl ?_
    have h4 : (w.toNat : Int) % 4 = 0 ∨ (w.toNat : Int) % 4 = 1 ∨ (w.toNat : Int) % 4 = 2 ∨ (w.toNat : Int) % 4 = 3 := by omega
    rcases h4 with h4 | h4 | h4 | h4
    · skip
      iterate 3 refine a_op ?_
      rw [h4]
      iterate 3 refine a_op ?_
      refine s_nil (r_false ?_)
      refine q_next ?_
      refine k_seq ?_
      refine k_seq ?_
      refine k_region rfl ?_
      iterate 3 refine a_op ?_
      refine s_nil (r_false ?_)
      refine q_next ?_
      refine a_true ?_
      refine k_region rfl ?_
      obtain ⟨m, hm, hlt⟩ : ∃ m : Nat, (at'.toNat : Int) % 64 = (m : Int) ∧ m < 64 := ⟨at'.toNat % 64, by omega, by omega⟩
      iterate 5 refine a_op ?_
      refine a_op (hs := by (simp (disch := omega) only [push_cast, hm] <;> rfl)) ?_
      iterate 6 refine a_op ?_
      refine s_nil (r_false ?_)
      refine q_next ?_
      refine k_seq ?_
      refine k_region rfl ?_
      iterate 3 refine a_opd ?_
      first | refine a_textd ?_ | refine a_textsd ?_
      iterate 3 refine a_opd ?_
      first | refine a_textd ?_ | refine a_textsd ?_
      iterate 3 refine a_opd ?_
      first | refine a_textd ?_ | refine a_textsd ?_
      iterate 3 refine a_opd ?_
      first | refine a_textd ?_ | refine a_textsd ?_
      refine a_calld [] false (Open_good Γ ((bytesB ks 64 64).set m ((bytesB ks 64 64).getD m 0 ^^^ by')) (bytesB ns 12 12) ad (sealB (bytesB ks 64 64) (bytesB ns 12 12) ad p) (by (try simp only [List.length_set]); omega) (by (try simp only [List.length_set]); omega)) ?_
      iterate 5 refine a_opd ?_
      refine s_nil (r_true (by kernel_rfl) ?_)
      refine q_next ?_
      refine k_seq ?_
      refine k_region rfl ?_
      iterate 3 refine a_opd ?_
      first | refine a_textd ?_ | refine a_textsd ?_
      iterate 3 refine a_opd ?_
      first | refine a_textd ?_ | refine a_textsd ?_
      iterate 3 refine a_opd ?_
      first | refine a_textd ?_ | refine a_textsd ?_
      iterate 3 refine a_opd ?_
      first | refine a_textd ?_ | refine a_textsd ?_
      refine a_calld [] false (refOpen_good Γ ((bytesB ks 64 64).set m ((bytesB ks 64 64).getD m 0 ^^^ by')) (bytesB ns 12 12) ad (sealB (bytesB ks 64 64) (bytesB ns 12 12) ad p) (by (try simp only [List.length_set]); omega) (by (try simp only [List.length_set]); omega)) ?_
      refine a_opd ?_
      refine a_opd ?_
      refine s_nil (r_true (by kernel_rfl) ?_)
      refine q_next ?_
      refine k_seq ?_
      refine k_region rfl ?_
      iterate 5 refine a_op ?_
      first | refine a_go ?_ | refine a_no ?_ | refine a_may ?_
      first | refine a_go ?_ | refine a_no ?_ | refine a_may ?_
      first | refine a_go ?_ | refine a_no ?_ | refine a_may ?_
      first | refine a_go ?_ | refine a_no ?_ | refine a_may ?_
      refine a_op ?_
      refine a_op ?_
      refine a_callgo [] false (awake_good Γ) ?_
      refine a_op ?_
      refine a_op ?_
      refine s_nil (r_false ?_)
      refine q_next ?_
      refine k_ret ?_
      refine ⟨.inr rfl, a_ret [] (by rw [results4]) ?_ ?_ ?_⟩ <;> simp [-List.map_set, -List.map_replicate, -List.reduceReplicate, -List.map_map, -List.map_drop, -List.map_take, num, bol, txt, w8, w16, w32, w64, lst, cls, rowO, boxO, List.take_of_length_le]
    · skip
      iterate 3 refine a_op ?_
      rw [h4]
      iterate 3 refine a_op ?_
      refine s_nil (r_false ?_)
      refine q_next ?_
      refine k_seq ?_
      refine k_seq ?_
      refine k_region rfl ?_
      iterate 3 refine a_op ?_
      refine s_nil (r_false ?_)
      refine q_next ?_
      refine a_true ?_
      refine k_region rfl ?_
      obtain ⟨m, hm, hlt⟩ : ∃ m : Nat, (at'.toNat : Int) % 12 = (m : Int) ∧ m < 12 := ⟨at'.toNat % 12, by omega, by omega⟩
      iterate 5 refine a_op ?_
      refine a_op (hs := by (simp (disch := omega) only [push_cast, hm] <;> rfl)) ?_
      iterate 6 refine a_op ?_
      refine s_nil (r_false ?_)
      refine q_next ?_
      refine k_seq ?_
      refine k_region rfl ?_
      iterate 3 refine a_opd ?_
      first | refine a_textd ?_ | refine a_textsd ?_
      iterate 3 refine a_opd ?_
      first | refine a_textd ?_ | refine a_textsd ?_
      iterate 3 refine a_opd ?_
      first | refine a_textd ?_ | refine a_textsd ?_
      iterate 3 refine a_opd ?_
      first | refine a_textd ?_ | refine a_textsd ?_
      refine a_calld [] false (Open_good Γ (bytesB ks 64 64) ((bytesB ns 12 12).set m ((bytesB ns 12 12).getD m 0 ^^^ by')) ad (sealB (bytesB ks 64 64) (bytesB ns 12 12) ad p) (by (try simp only [List.length_set]); omega) (by (try simp only [List.length_set]); omega)) ?_
      iterate 5 refine a_opd ?_
      refine s_nil (r_true (by kernel_rfl) ?_)
      refine q_next ?_
      refine k_seq ?_
      refine k_region rfl ?_
      iterate 3 refine a_opd ?_
      first | refine a_textd ?_ | refine a_textsd ?_
      iterate 3 refine a_opd ?_
      first | refine a_textd ?_ | refine a_textsd ?_
      iterate 3 refine a_opd ?_
      first | refine a_textd ?_ | refine a_textsd ?_
      iterate 3 refine a_opd ?_
      first | refine a_textd ?_ | refine a_textsd ?_
      refine a_calld [] false (refOpen_good Γ (bytesB ks 64 64) ((bytesB ns 12 12).set m ((bytesB ns 12 12).getD m 0 ^^^ by')) ad (sealB (bytesB ks 64 64) (bytesB ns 12 12) ad p) (by (try simp only [List.length_set]); omega) (by (try simp only [List.length_set]); omega)) ?_
      refine a_opd ?_
      refine a_opd ?_
      refine s_nil (r_true (by kernel_rfl) ?_)
      refine q_next ?_
      refine k_seq ?_
      refine k_region rfl ?_
      iterate 5 refine a_op ?_
      first | refine a_go ?_ | refine a_no ?_ | refine a_may ?_
      first | refine a_go ?_ | refine a_no ?_ | refine a_may ?_
      first | refine a_go ?_ | refine a_no ?_ | refine a_may ?_
      first | refine a_go ?_ | refine a_no ?_ | refine a_may ?_
      refine a_op ?_
      refine a_op ?_
      refine a_callgo [] false (awake_good Γ) ?_
      refine a_op ?_
      refine a_op ?_
      refine s_nil (r_false ?_)
      refine q_next ?_
      refine k_ret ?_
      refine ⟨.inr rfl, a_ret [] (by rw [results4]) ?_ ?_ ?_⟩ <;> simp [-List.map_set, -List.map_replicate, -List.reduceReplicate, -List.map_map, -List.map_drop, -List.map_take, num, bol, txt, w8, w16, w32, w64, lst, cls, rowO, boxO, List.take_of_length_le]
    · skip
      iterate 3 refine a_op ?_
      rw [h4]
      iterate 3 refine a_op ?_
      refine s_nil (r_false ?_)
      refine q_next ?_
      refine k_seq ?_
      refine k_seq ?_
      refine k_region rfl ?_
      iterate 3 refine a_op ?_
      refine s_nil (r_false ?_)
      refine q_next ?_
      refine a_if (fun hc2 => ?_) (fun hc2 => ?_)
      · (try simp only [Bool.and_eq_true, Bool.or_eq_true, Bool.or_eq_false_iff, Bool.not_eq_true', Bool.not_eq_false', dec_t, dec_f, Bool.and_eq_false_imp, beq_iff_eq, beq_eq_false_iff_ne, ne_eq] at hc2)
        obtain ⟨m, hm, hlt, hmi⟩ := mod_nat at'.toNat ad.length (by omega)
        refine k_region rfl ?_
        skip
        iterate 5 refine a_op ?_
        refine a_op (hs := by (simp (disch := omega) only [push_cast, hm] <;> rfl)) ?_
        iterate 6 refine a_op ?_
        refine s_nil (r_false ?_)
        refine q_next ?_
        refine k_seq ?_
        refine k_region rfl ?_
        iterate 3 refine a_opd ?_
        first | refine a_textd ?_ | refine a_textsd ?_
        iterate 3 refine a_opd ?_
        first | refine a_textd ?_ | refine a_textsd ?_
        iterate 3 refine a_opd ?_
        first | refine a_textd ?_ | refine a_textsd ?_
        iterate 3 refine a_opd ?_
        first | refine a_textd ?_ | refine a_textsd ?_
        refine a_calld [] false (Open_good Γ (bytesB ks 64 64) (bytesB ns 12 12) (ad.set m (ad.getD m 0 ^^^ by')) (sealB (bytesB ks 64 64) (bytesB ns 12 12) ad p) (by (try simp only [List.length_set]); omega) (by (try simp only [List.length_set]); omega)) ?_
        iterate 5 refine a_opd ?_
        refine s_nil (r_true (by kernel_rfl) ?_)
        refine q_next ?_
        refine k_seq ?_
        refine k_region rfl ?_
        iterate 3 refine a_opd ?_
        first | refine a_textd ?_ | refine a_textsd ?_
        iterate 3 refine a_opd ?_
        first | refine a_textd ?_ | refine a_textsd ?_
        iterate 3 refine a_opd ?_
        first | refine a_textd ?_ | refine a_textsd ?_
        iterate 3 refine a_opd ?_
        first | refine a_textd ?_ | refine a_textsd ?_
        refine a_calld [] false (refOpen_good Γ (bytesB ks 64 64) (bytesB ns 12 12) (ad.set m (ad.getD m 0 ^^^ by')) (sealB (bytesB ks 64 64) (bytesB ns 12 12) ad p) (by (try simp only [List.length_set]); omega) (by (try simp only [List.length_set]); omega)) ?_
        refine a_opd ?_
        refine a_opd ?_
        refine s_nil (r_true (by kernel_rfl) ?_)
        refine q_next ?_
        refine k_seq ?_
        refine k_region rfl ?_
        iterate 5 refine a_op ?_
        first | refine a_go ?_ | refine a_no ?_ | refine a_may ?_
        first | refine a_go ?_ | refine a_no ?_ | refine a_may ?_
        first | refine a_go ?_ | refine a_no ?_ | refine a_may ?_
        first | refine a_go ?_ | refine a_no ?_ | refine a_may ?_
        refine a_op ?_
        refine a_op ?_
        refine a_callgo [] false (awake_good Γ) ?_
        refine a_op ?_
        refine a_op ?_
        refine s_nil (r_false ?_)
        refine q_next ?_
        refine k_ret ?_
        refine ⟨.inr rfl, a_ret [] (by rw [results4]) ?_ ?_ ?_⟩ <;> simp [-List.map_set, -List.map_replicate, -List.reduceReplicate, -List.map_map, -List.map_drop, -List.map_take, num, bol, txt, w8, w16, w32, w64, lst, cls, rowO, boxO, List.take_of_length_le]
      · (try simp only [Bool.and_eq_true, Bool.or_eq_true, Bool.or_eq_false_iff, Bool.not_eq_true', Bool.not_eq_false', dec_t, dec_f, Bool.and_eq_false_imp, beq_iff_eq, beq_eq_false_iff_ne, ne_eq] at hc2)
        refine k_skip ?_
        refine q_next ?_
        refine k_seq ?_
        refine k_region rfl ?_
        iterate 3 refine a_opd ?_
        first | refine a_textd ?_ | refine a_textsd ?_
        iterate 3 refine a_opd ?_
        first | refine a_textd ?_ | refine a_textsd ?_
        iterate 3 refine a_opd ?_
        first | refine a_textd ?_ | refine a_textsd ?_
        iterate 3 refine a_opd ?_
        first | refine a_textd ?_ | refine a_textsd ?_
        refine a_calld [] false (Open_good Γ (bytesB ks 64 64) (bytesB ns 12 12) ad (sealB (bytesB ks 64 64) (bytesB ns 12 12) ad p) (by (try simp only [List.length_set]); omega) (by (try simp only [List.length_set]); omega)) ?_
        iterate 5 refine a_opd ?_
        refine s_nil (r_true (by kernel_rfl) ?_)
        refine q_next ?_
        refine k_seq ?_
        refine k_region rfl ?_
        iterate 3 refine a_opd ?_
        first | refine a_textd ?_ | refine a_textsd ?_
        iterate 3 refine a_opd ?_
        first | refine a_textd ?_ | refine a_textsd ?_
        iterate 3 refine a_opd ?_
        first | refine a_textd ?_ | refine a_textsd ?_
        iterate 3 refine a_opd ?_
        first | refine a_textd ?_ | refine a_textsd ?_
        refine a_calld [] false (refOpen_good Γ (bytesB ks 64 64) (bytesB ns 12 12) ad (sealB (bytesB ks 64 64) (bytesB ns 12 12) ad p) (by (try simp only [List.length_set]); omega) (by (try simp only [List.length_set]); omega)) ?_
        refine a_opd ?_
        refine a_opd ?_
        refine s_nil (r_true (by kernel_rfl) ?_)
        refine q_next ?_
        refine k_seq ?_
        refine k_region rfl ?_
        iterate 5 refine a_op ?_
        first | refine a_go ?_ | refine a_no ?_ | refine a_may ?_
        first | refine a_go ?_ | refine a_no ?_ | refine a_may ?_
        first | refine a_go ?_ | refine a_no ?_ | refine a_may ?_
        first | refine a_go ?_ | refine a_no ?_ | refine a_may ?_
        refine a_op ?_
        refine a_op ?_
        refine a_callgo [] false (awake_good Γ) ?_
        refine a_op ?_
        refine a_op ?_
        refine s_nil (r_false ?_)
        refine q_next ?_
        refine k_ret ?_
        refine ⟨.inr rfl, a_ret [] (by rw [results4]) ?_ ?_ ?_⟩ <;> simp [-List.map_set, -List.map_replicate, -List.reduceReplicate, -List.map_map, -List.map_drop, -List.map_take, num, bol, txt, w8, w16, w32, w64, lst, cls, rowO, boxO, List.take_of_length_le]
    · skip
      iterate 3 refine a_op ?_
      rw [h4]
      iterate 3 refine a_op ?_
      refine s_nil (r_false ?_)
      refine q_next ?_
      refine k_seq ?_
      refine k_seq ?_
      refine k_region rfl ?_
      iterate 3 refine a_op ?_
      refine s_nil (r_false ?_)
      refine q_next ?_
      refine a_true ?_
      refine k_region rfl ?_
      obtain ⟨m, hm, hlt, hmi⟩ := mod_nat at'.toNat (sealB (bytesB ks 64 64) (bytesB ns 12 12) ad p).length (by omega)
      iterate 5 refine a_op ?_
      refine a_op (hs := by (simp (disch := omega) only [push_cast, hm] <;> rfl)) ?_
      iterate 6 refine a_op ?_
      refine s_nil (r_false ?_)
      refine q_next ?_
      refine k_seq ?_
      refine k_region rfl ?_
      iterate 3 refine a_opd ?_
      first | refine a_textd ?_ | refine a_textsd ?_
      iterate 3 refine a_opd ?_
      first | refine a_textd ?_ | refine a_textsd ?_
      iterate 3 refine a_opd ?_
      first | refine a_textd ?_ | refine a_textsd ?_
      iterate 3 refine a_opd ?_
      first | refine a_textd ?_ | refine a_textsd ?_
      refine a_calld [] false (Open_good Γ (bytesB ks 64 64) (bytesB ns 12 12) ad ((sealB (bytesB ks 64 64) (bytesB ns 12 12) ad p).set m ((sealB (bytesB ks 64 64) (bytesB ns 12 12) ad p).getD m 0 ^^^ by')) (by (try simp only [List.length_set]); omega) (by (try simp only [List.length_set]); omega)) ?_
      iterate 5 refine a_opd ?_
      refine s_nil (r_true (by kernel_rfl) ?_)
      refine q_next ?_
      refine k_seq ?_
      refine k_region rfl ?_
      iterate 3 refine a_opd ?_
      first | refine a_textd ?_ | refine a_textsd ?_
      iterate 3 refine a_opd ?_
      first | refine a_textd ?_ | refine a_textsd ?_
      iterate 3 refine a_opd ?_
      first | refine a_textd ?_ | refine a_textsd ?_
      iterate 3 refine a_opd ?_
      first | refine a_textd ?_ | refine a_textsd ?_
      refine a_calld [] false (refOpen_good Γ (bytesB ks 64 64) (bytesB ns 12 12) ad ((sealB (bytesB ks 64 64) (bytesB ns 12 12) ad p).set m ((sealB (bytesB ks 64 64) (bytesB ns 12 12) ad p).getD m 0 ^^^ by')) (by (try simp only [List.length_set]); omega) (by (try simp only [List.length_set]); omega)) ?_
      refine a_opd ?_
      refine a_opd ?_
      refine s_nil (r_true (by kernel_rfl) ?_)
      refine q_next ?_
      refine k_seq ?_
      refine k_region rfl ?_
      iterate 5 refine a_op ?_
      first | refine a_go ?_ | refine a_no ?_ | refine a_may ?_
      first | refine a_go ?_ | refine a_no ?_ | refine a_may ?_
      first | refine a_go ?_ | refine a_no ?_ | refine a_may ?_
      first | refine a_go ?_ | refine a_no ?_ | refine a_may ?_
      refine a_op ?_
      refine a_op ?_
      refine a_callgo [] false (awake_good Γ) ?_
      refine a_op ?_
      refine a_op ?_
      refine s_nil (r_false ?_)
      refine q_next ?_
      refine k_ret ?_
      refine ⟨.inr rfl, a_ret [] (by rw [results4]) ?_ ?_ ?_⟩ <;> simp [-List.map_set, -List.map_replicate, -List.reduceReplicate, -List.map_map, -List.map_drop, -List.map_take, num, bol, txt, w8, w16, w32, w64, lst, cls, rowO, boxO, List.take_of_length_le]

end Go.Proofs.Try
