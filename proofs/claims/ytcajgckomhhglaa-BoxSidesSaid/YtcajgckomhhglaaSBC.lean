import Derived.Test.YtcajgckomhhglaaSBA
set_option maxHeartbeats 4000000
set_option maxRecDepth 100000
set_option linter.unusedVariables false
set_option linter.unusedSimpArgs false
namespace Go.Proofs.Try
open Go Go.Ot
attribute [local irreducible] wpK wpS seqK blockK loopF regK meetK OpSpec Le sched wordTo rnds addTo rotr chunks takeB be64 outB sha padB xorTo keyB hmacB orTo keyOf chX hidB tagB eight sealB openB bytesB
theorem bstream_good (Γ : Gl) (ks ns a b : List UInt8) (b0 : ks.length ≤ maxLen) (b1 : ns.length ≤ maxLen) (b2 : a.length ≤ maxLen) (b3 : b.length ≤ maxLen) : Go.Ot.Good Γ prog 7 [.t (lst w8 ks), .t (lst w8 ns), .t (txt a), .t (txt b)] [] (.t (bol true)) [] [] := by
  obtain ⟨m, hm⟩ : ∃ m : Nat, m = min a.length b.length := ⟨_, rfl⟩
  have hma : m ≤ a.length := by omega
  have hmb : m ≤ b.length := by omega
  have hta : (a.take m).length = m := by simp; omega
  have htb : (b.take m).length = m := by simp; omega
  refine a_body F.mix func7 (by rfl) ntmps7 ?_
  refine k_seq ?_
  refine k_region rfl ?_
  refine a_op ?_
  refine s_nil (r_false ?_)
  refine q_next ?_
  refine k_seq ?_
  refine k_region rfl ?_
  iterate 5 refine a_op ?_
  rw [show min (a.length : Int) (b.length : Int) = (m : Int) from by omega]
  refine a_op ?_
  refine s_nil (r_false ?_)
  refine q_next ?_
  refine k_seq ?_
  refine k_seq ?_
  refine k_region rfl ?_
  refine a_op ?_
  refine a_op ?_
  refine s_nil (r_false ?_)
  refine q_next ?_
  refine a_if (fun hc0 => ?_) (fun hc0 => ?_)
  · (try simp only [Bool.and_eq_true, Bool.or_eq_true, Bool.or_eq_false_iff, Bool.not_eq_true', Bool.not_eq_false', dec_t, dec_f, Bool.and_eq_false_imp, beq_iff_eq, beq_eq_false_iff_ne, ne_eq] at hc0)
    refine k_seq ?_
    refine k_region rfl ?_
    refine a_call [] false (awake_good Γ) ?_
    refine a_op ?_
    refine s_nil (r_false ?_)
    refine q_next ?_
    refine k_ret ?_
    refine q_seq_ret ?_
    refine ⟨.inr rfl, a_ret [] (by rw [results7]) ?_ ?_ ?_⟩ <;> simp [-List.map_set, -List.map_replicate, -List.reduceReplicate, -List.map_map, -List.map_drop, -List.map_take, num, bol, txt, w8, w16, w32, w64, lst, cls, rowO, boxO, List.take_of_length_le]
  · (try simp only [Bool.and_eq_true, Bool.or_eq_true, Bool.or_eq_false_iff, Bool.not_eq_true', Bool.not_eq_false', dec_t, dec_f, Bool.and_eq_false_imp, beq_iff_eq, beq_eq_false_iff_ne, ne_eq] at hc0)
    have hX := sealB_len (key := (bytesB ks 64 64)) (nonce := (bytesB ns 12 12)) (ad := []) (b := a.take m) (bytesB_len _ _ _) (bytesB_len _ _ _) (by omega)
    have hY := sealB_len (key := (bytesB ks 64 64)) (nonce := (bytesB ns 12 12)) (ad := [111, 116, 104, 101, 114]) (b := b.take m) (bytesB_len _ _ _) (bytesB_len _ _ _) (by omega)
    have hZ := sealB_len (key := (bytesB ks 64 64)) (nonce := (bytesB ns 12 12)) (ad := []) (b := List.replicate m 0) (bytesB_len _ _ _) (bytesB_len _ _ _) (by simp; omega)
    have hz := seal_take (key := (bytesB ks 64 64)) (nonce := (bytesB ns 12 12)) (ad := []) (b := List.replicate m 0) (bytesB_len _ _ _) (bytesB_len _ _ _) (by simp; omega)
    rw [hta] at hX
    rw [htb] at hY
    rw [List.length_replicate] at hZ hz
    refine k_skip ?_
    refine q_next ?_
    refine k_seq ?_
    refine k_region rfl ?_
    refine a_op ?_
    refine a_call [] false (bytes_good Γ ks 64 (by omega) (by omega)) ?_
    refine a_op ?_
    refine a_call [] false (bytes_good Γ ns 12 (by omega) (by omega)) ?_
    refine a_op ?_
    refine a_op ?_
    refine s_nil (r_false ?_)
    refine q_next ?_
    refine k_seq ?_
    refine k_region rfl ?_
    iterate 5 refine a_opd ?_
    refine a_calld [] false (seal_good Γ (bytesB ks 64 64) (bytesB ns 12 12) [] (a.take m) (by decide)) ?_
    iterate 5 refine a_opd ?_
    refine a_calld [] false (seal_good Γ (bytesB ks 64 64) (bytesB ns 12 12) [111, 116, 104, 101, 114] (b.take m) (by decide)) ?_
    refine a_opd ?_
    refine a_opd ?_
    refine s_nil (r_true (by kernel_rfl) ?_)
    refine q_next ?_
    refine k_seq ?_
    refine k_seq ?_
    refine k_region rfl ?_
    iterate 6 refine a_op ?_
    first | refine a_go ?_ | refine a_no ?_ | refine a_may ?_
    first | refine a_go ?_ | refine a_no ?_ | refine a_may ?_
    first | refine a_go ?_ | refine a_no ?_ | refine a_may ?_
    first | refine a_go ?_ | refine a_no ?_ | refine a_may ?_
    first | refine a_go ?_ | refine a_no ?_ | refine a_may ?_
    refine a_op ?_
    refine s_nil (r_false ?_)
    refine q_next ?_
    refine a_false ?_
    refine k_skip ?_
    refine q_next ?_
    refine k_seq ?_
    refine k_seq ?_
    refine k_region rfl ?_
    refine a_op ?_
    refine s_nil (r_false ?_)
    refine q_next ?_
    refine k_block ?_
    refine k_loopF (fun sl L (i : Nat) => ⟨setAll (setBad sl [0, 1, 8, 16, 17, 18, 19, 20, 21, 22, 23, 24, 25, 26, 27, 28, 29, 30, 31, 32, 33, 34, 35, 36, 37, 38, 39, 40, 41, 42, 43, 44, 45, 46, 47, 48, 49, 50, 51, 52, 53, 54, 55, 56, 57, 58, 59, 60, 61, 62, 63, 64, 65, 66, 67, 68, 69, 70, 71]) [(14, .t (num i))], Go.Ot.look (L)⟩) (fun i => i ≤ m) (fun i => m - i) (0) (a_le ?_) ?_ ?_
    · refine le_same ?_ ?_ ?_ <;> simp [-List.map_set, -List.map_replicate, -List.reduceReplicate, -List.map_map, -List.map_drop, -List.map_take, num, bol, txt, w8, w16, w32, w64, lst, cls, rowO, boxO, List.take_of_length_le]
    · (first | omega | simp)
    · intro i hi
      refine a_st ?_
      refine k_seq ?_
      refine k_seq ?_
      refine k_region rfl ?_
      iterate 3 refine a_op ?_
      refine s_nil (r_false ?_)
      refine q_next ?_
      refine a_if (fun hc2 => ?_) (fun hc2 => ?_)
      · (try simp only [Bool.and_eq_true, Bool.or_eq_true, Bool.or_eq_false_iff, Bool.not_eq_true', Bool.not_eq_false', dec_t, dec_f, Bool.and_eq_false_imp, beq_iff_eq, beq_eq_false_iff_ne, ne_eq] at hc2)
        have hxy := seal_xor (key := (bytesB ks 64 64)) (nonce := (bytesB ns 12 12)) (ad := []) (ad' := [111, 116, 104, 101, 114]) (a := a) (b := b) (bytesB_len _ _ _) (bytesB_len _ _ _) (m := m) (by omega) hma hmb (i := i) (by omega)
        refine k_skip ?_
        refine q_next ?_
        refine k_seq ?_
        refine k_block ?_
        refine k_seq ?_
        refine k_region rfl ?_
        iterate 7 refine a_opd ?_
        rw [hxy]
        iterate 8 refine a_opd ?_
        refine s_nil (r_true (by kernel_rfl) ?_)
        refine q_next ?_
        refine a_false ?_
        refine k_skip ?_
        refine q_block (q_next ?_)
        refine k_region rfl ?_
        iterate 3 refine a_op ?_
        refine s_nil (r_false ?_)
        refine q_loopF (i + 1) (a_le ?_) ?_ ?_
        · refine le_same ?_ ?_ ?_ <;> simp [-List.map_set, -List.map_replicate, -List.reduceReplicate, -List.map_map, -List.map_drop, -List.map_take, num, bol, txt, w8, w16, w32, w64, lst, cls, rowO, boxO, List.take_of_length_le]
        · (first | omega | (simp_all <;> omega))
        · (first | omega | (simp only []; omega))
      · (try simp only [Bool.and_eq_true, Bool.or_eq_true, Bool.or_eq_false_iff, Bool.not_eq_true', Bool.not_eq_false', dec_t, dec_f, Bool.and_eq_false_imp, beq_iff_eq, beq_eq_false_iff_ne, ne_eq] at hc2)
        refine k_exit ?_
        refine q_seq_exit (q_loopF_exit (q_block_exit (q_next ?_)))
        refine k_seq ?_
        refine k_region rfl ?_
        iterate 4 refine a_op ?_
        first | refine a_text ?_ | refine a_texts ?_
        refine a_call [] false (seal_good Γ (bytesB ks 64 64) (bytesB ns 12 12) [] (List.replicate m 0) (by decide)) ?_
        refine a_op ?_
        refine s_nil (r_false ?_)
        refine q_next ?_
        refine k_seq ?_
        refine k_region rfl ?_
        iterate 6 refine a_opd ?_
        first | refine a_god ?_ | refine a_nod ?_ | refine a_mayd ?_
        first | refine a_god ?_ | refine a_nod ?_ | refine a_mayd ?_
        first | refine a_god ?_ | refine a_nod ?_ | refine a_mayd ?_
        rw [hz]
        first | refine a_god ?_ | refine a_nod ?_ | refine a_mayd ?_
        first | refine a_god ?_ | refine a_nod ?_ | refine a_mayd ?_
        first | refine a_god ?_ | refine a_nod ?_ | refine a_mayd ?_
        first | refine a_god ?_ | refine a_nod ?_ | refine a_mayd ?_
        first | refine a_god ?_ | refine a_nod ?_ | refine a_mayd ?_
        first | refine a_textgod ?_ | refine a_textsgod ?_
        refine a_callgod [] false (refhide_good Γ (bytesB ks 64 64) (bytesB ns 12 12) (List.replicate m 0) (bytesB_len _ _ _) (bytesB_len _ _ _) (by simp; omega)) ?_
        first | refine a_god ?_ | refine a_nod ?_ | refine a_mayd ?_
        refine a_opd ?_
        refine a_opd ?_
        refine a_callgod [] false (awake_good Γ) ?_
        refine a_opd ?_
        refine a_opd ?_
        refine s_nil (r_true (by kernel_rfl) ?_)
        refine q_next ?_
        refine k_ret ?_
        refine ⟨.inr rfl, a_ret [] (by rw [results7]) ?_ ?_ ?_⟩ <;> simp [-List.map_set, -List.map_replicate, -List.reduceReplicate, -List.map_map, -List.map_drop, -List.map_take, num, bol, txt, w8, w16, w32, w64, lst, cls, rowO, boxO, List.take_of_length_le]

theorem bsides_good (Γ : Gl) (ks ad p : List UInt8) (cut : UInt8) (b0 : ks.length ≤ maxLen) (b1 : ad.length ≤ maxLen) (b2 : p.length ≤ maxLen) : Go.Ot.Good Γ prog 5 [.t (lst w8 ks), .t (txt ad), .t (txt p), .t (w8 cut)] [] (.t (bol true)) [] [] := by
  have hcut := cut.toNat_lt
  obtain ⟨c, hc, hc2⟩ : ∃ c : Nat, (cut.toNat : Int) % ((ad.length : Int) + 1) = (c : Int) ∧ c ≤ ad.length := by
    obtain ⟨c, h1, h2, _⟩ := mod_nat cut.toNat (ad.length + 1) (by omega)
    exact ⟨c, by rw [← h1]; simp, by omega⟩
  refine a_body F.mix func5 (by rfl) ntmps5 ?_
  refine k_seq ?_
  refine k_region rfl ?_
  refine a_op ?_
  refine s_nil (r_false ?_)
  refine q_next ?_
  refine k_seq ?_
  refine k_seq ?_
  refine k_region rfl ?_
  iterate 4 refine a_op ?_
  refine a_may ?_
  refine a_may ?_
  refine a_may ?_
  refine a_op ?_
  refine s_nil (r_false ?_)
  refine q_next ?_
  refine a_if (fun hc0 => ?_) (fun hc0 => ?_)
  · (try simp only [Bool.and_eq_true, Bool.or_eq_true, Bool.or_eq_false_iff, Bool.not_eq_true', Bool.not_eq_false', dec_t, dec_f, Bool.and_eq_false_imp, beq_iff_eq, beq_eq_false_iff_ne, ne_eq] at hc0)
    refine k_seq ?_
    refine k_region rfl ?_
    refine a_call [] false (awake_good Γ) ?_
    refine a_op ?_
    refine s_nil (r_false ?_)
    refine q_next ?_
    refine k_ret ?_
    refine q_seq_ret ?_
    refine ⟨.inr rfl, a_ret [] (by rw [results5]) ?_ ?_ ?_⟩ <;> simp [-List.map_set, -List.map_replicate, -List.reduceReplicate, -List.map_map, -List.map_drop, -List.map_take, num, bol, txt, w8, w16, w32, w64, lst, cls, rowO, boxO, List.take_of_length_le]
  · (try simp only [Bool.and_eq_true, Bool.or_eq_true, Bool.or_eq_false_iff, Bool.not_eq_true', Bool.not_eq_false', dec_t, dec_f, Bool.and_eq_false_imp, beq_iff_eq, beq_eq_false_iff_ne, ne_eq] at hc0)
    refine k_skip ?_
    refine q_next ?_
    refine k_seq ?_
    refine k_region rfl ?_
    refine a_op ?_
    refine a_call [] false (bytes_good Γ ks 64 (by omega) (by omega)) ?_
    refine a_op ?_
    refine s_nil (r_false ?_)
    refine q_next ?_
    refine k_seq ?_
    refine k_region rfl ?_
    refine a_op ?_
    refine a_call [] false (bytes_good Γ ks 12 (by omega) (by omega)) ?_
    refine a_op ?_
    refine s_nil (r_false ?_)
    refine q_next ?_
    refine k_seq ?_
    refine k_region rfl ?_
    iterate 4 refine a_op ?_
    refine a_call [] false (seal_good Γ (bytesB ks 64 64) (bytesB ks 12 12) ad p (by omega)) ?_
    refine a_op ?_
    refine s_nil (r_false ?_)
    refine q_next ?_
    refine k_seq ?_
    refine k_region rfl ?_
    iterate 5 refine a_op ?_
    refine a_op (hs := by (simp (disch := omega) only [push_cast, hc] <;> rfl)) ?_
    refine a_op ?_
    refine s_nil (r_false ?_)
    refine q_next ?_
    refine k_seq ?_
    refine k_region rfl ?_
    iterate 4 refine a_op ?_
    refine s_nil (r_false ?_)
    refine q_next ?_
    refine k_seq ?_
    refine k_region rfl ?_
    iterate 7 refine a_op ?_
    rw [show min ((ad.length : Int) + 1 + 1 + 1 + 1 + 1 + 1 + 1 + 1 + 1 + 1 + 1 + 1) ((c : Int) + 12) = ((c + 12 : Nat) : Int) from by omega]
    refine a_op ?_
    refine a_op ?_
    refine s_nil (r_false ?_)
    refine q_next ?_
    refine k_seq ?_
    refine k_region rfl ?_
    iterate 6 refine a_op ?_
    refine a_call [] false (Open_good Γ (bytesB ks 64 64) (((ad ++ bytesB ks 12 12).take (c + 12)).drop c) (ad.take c) (sealB (bytesB ks 64 64) (bytesB ks 12 12) ad p) (by simp; omega) (by have := sealB_le (bytesB ks 64 64) (bytesB ks 12 12) ad p; omega)) ?_
    iterate 5 refine a_op ?_
    refine s_nil (r_false ?_)
    refine q_next ?_
    refine k_seq ?_
    refine k_region rfl ?_
    iterate 6 refine a_op ?_
    refine a_call [] false (refOpen_good Γ (bytesB ks 64 64) (((ad ++ bytesB ks 12 12).take (c + 12)).drop c) (ad.take c) (sealB (bytesB ks 64 64) (bytesB ks 12 12) ad p) (by simp; omega) (by have := sealB_le (bytesB ks 64 64) (bytesB ks 12 12) ad p; omega)) ?_
    refine a_op ?_
    refine a_op ?_
    refine s_nil (r_false ?_)
    refine q_next ?_
    refine k_seq ?_
    refine k_region rfl ?_
    iterate 5 refine a_op ?_
    first | refine a_go ?_ | refine a_no ?_ | refine a_may ?_
    first | refine a_go ?_ | refine a_no ?_ | refine a_may ?_
    first | refine a_go ?_ | refine a_no ?_ | refine a_may ?_
    first | refine a_go ?_ | refine a_no ?_ | refine a_may ?_
    refine a_op ?_
    refine a_op ?_
    first | refine a_go ?_ | refine a_no ?_ | refine a_may ?_
    first | refine a_go ?_ | refine a_no ?_ | refine a_may ?_
    first | refine a_go ?_ | refine a_no ?_ | refine a_may ?_
    first | refine a_go ?_ | refine a_no ?_ | refine a_may ?_
    first | refine a_go ?_ | refine a_no ?_ | refine a_may ?_
    refine a_callgo [] false (refseal_good Γ (bytesB ks 64 64) (bytesB ks 12 12) ad p (by omega)) ?_
    first | refine a_go ?_ | refine a_no ?_ | refine a_may ?_
    refine a_op ?_
    refine a_op ?_
    refine a_callgo [] false (awake_good Γ) ?_
    refine a_op ?_
    refine a_op ?_
    refine s_nil (r_false ?_)
    refine q_next ?_
    refine k_ret ?_
    refine ⟨.inr rfl, a_ret [] (by rw [results5]) ?_ ?_ ?_⟩ <;> simp [-List.map_set, -List.map_replicate, -List.reduceReplicate, -List.map_map, -List.map_drop, -List.map_take, num, bol, txt, w8, w16, w32, w64, lst, cls, rowO, boxO, List.take_of_length_le]

end Go.Proofs.Try
