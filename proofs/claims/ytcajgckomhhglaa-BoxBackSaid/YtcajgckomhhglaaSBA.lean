import Derived.Test.YtcajgckomhhglaaSBO
set_option maxHeartbeats 4000000
set_option maxRecDepth 100000
set_option linter.unusedVariables false
set_option linter.unusedSimpArgs false
namespace Go.Proofs.Try
open Go Go.Ot
attribute [local irreducible] wpK wpS seqK blockK loopF regK meetK OpSpec Le sched wordTo rnds addTo rotr chunks takeB be64 outB sha padB xorTo keyB hmacB orTo keyOf chX hidB tagB eight sealB openB bytesB

theorem opened_good (Γ : Gl) (key nonce ad b : List UInt8) (h1 : key.length = 64) (h2 : nonce.length = 12) (h3 : b.length ≤ 1048576) (ha : ad.length ≤ 1000000) : Go.Ot.Good Γ prog 10 [.t (txt key), .t (txt nonce), .t (txt ad), .t (txt (sealB key nonce ad b))] [] (.tup [.t (txt b), .t (bol true)]) [] [] := by
  have h := Open_good Γ key nonce ad (sealB key nonce ad b) ha (by rw [sealB_len h1 h2 h3]; omega)
  rw [open_seal h1 h2 h3] at h
  exact h
theorem sealno_good (Γ : Gl) (key nonce ad s : List UInt8) (h : ¬ (key.length = 64 ∧ nonce.length = 12 ∧ s.length ≤ 1048576)) (ha : ad.length ≤ 1000000) : Go.Ot.Good Γ prog 12 [.t (txt key), .t (txt nonce), .t (txt ad), .t (txt s)] [] (.t (txt [])) [] [] := by
  have h' := seal_good Γ key nonce ad s ha
  rwa [sealB_no h] at h'
theorem openno_good (Γ : Gl) (key nonce ad s : List UInt8) (h : ¬ (key.length = 64 ∧ nonce.length = 12 ∧ 16 ≤ s.length ∧ s.length ≤ 1048592)) (ha : ad.length ≤ 1000000) (hs : s.length ≤ 1000000000) : Go.Ot.Good Γ prog 10 [.t (txt key), .t (txt nonce), .t (txt ad), .t (txt s)] [] (.tup [.t (txt []), .t (bol false)]) [] [] := by
  have h' := Open_good Γ key nonce ad s ha hs
  rw [openB_none h] at h'
  exact h'

theorem bytes_good (Γ : Gl) (ns : List UInt8) (n : Nat) (hl : ns.length ≤ maxLen) (hn : n ≤ 1000) : Go.Ot.Good Γ prog 14 [.t (lst w8 ns), .t (num n)] [] (.t (txt (bytesB ns n n))) [] [] := by
  refine a_body F.mix func14 (by rfl) ntmps14 ?_
  refine k_seq ?_
  refine k_region rfl ?_
  refine a_op ?_
  refine s_nil (r_false ?_)
  refine q_next ?_
  refine k_seq ?_
  refine k_region rfl ?_
  iterate 3 refine a_op ?_
  refine s_nil (r_false ?_)
  refine q_next ?_
  refine k_seq ?_
  refine k_seq ?_
  refine k_region rfl ?_
  refine a_op ?_
  refine s_nil (r_false ?_)
  refine q_next ?_
  refine k_block ?_
  refine k_loopF (fun sl L (i : Nat) => ⟨setAll (setBad sl [7, 8, 9, 10, 11, 12, 13, 14, 15, 16, 17, 18, 19, 20, 21, 22, 23, 24, 25, 26, 27, 28, 29, 30, 31, 32, 33, 34, 35, 36, 37]) [(6, .t (num i))], Go.Ot.look (putL (.r 1 1 0) (rowO 5 w8 (bytesB ns n i)) L)⟩) (fun i => i ≤ n) (fun i => n - i) (0) (a_le ?_) ?_ ?_
  · refine le_same ?_ ?_ ?_ <;> simp [-List.map_set, -List.map_replicate, -List.reduceReplicate, -List.map_map, -List.map_drop, -List.map_take, num, bol, txt, w8, w16, w32, w64, lst, cls, rowO, boxO, List.take_of_length_le, bytesB]
  · (first | omega | simp)
  · intro i hi
    have hb := bytesB_len ns n i
    refine a_st ?_
    refine k_seq ?_
    refine k_seq ?_
    refine k_region rfl ?_
    iterate 3 refine a_op ?_
    refine s_nil (r_false ?_)
    refine q_next ?_
    refine a_if (fun hc0 => ?_) (fun hc0 => ?_)
    · (try simp only [Bool.and_eq_true, Bool.or_eq_true, Bool.or_eq_false_iff, Bool.not_eq_true', Bool.not_eq_false', dec_t, dec_f, Bool.and_eq_false_imp, beq_iff_eq, beq_eq_false_iff_ne, ne_eq] at hc0)
      refine k_skip ?_
      refine q_next ?_
      refine k_seq ?_
      refine k_block ?_
      refine k_seq ?_
      refine k_region rfl ?_
      iterate 3 refine a_op ?_
      refine a_cv8 ?_
      refine a_op ?_
      refine a_op ?_
      refine s_nil (r_false ?_)
      refine q_next ?_
      refine k_seq ?_
      refine k_region rfl ?_
      iterate 3 refine a_op ?_
      refine s_nil (r_false ?_)
      refine q_next ?_
      refine a_if (fun hc1 => ?_) (fun hc1 => ?_)
      · (try simp only [Bool.and_eq_true, Bool.or_eq_true, Bool.or_eq_false_iff, Bool.not_eq_true', Bool.not_eq_false', dec_t, dec_f, Bool.and_eq_false_imp, beq_iff_eq, beq_eq_false_iff_ne, ne_eq] at hc1)
        have hq : (0 < ns.length) = True := eq_true (by omega)
        obtain ⟨m, hm, hlt, hmi⟩ := mod_nat i ns.length (by omega)
        have hmi' := hmi.symm
        obtain ⟨q, hdv, hqi⟩ := div_nat i ns.length
        refine k_region rfl ?_
        iterate 6 refine a_opd ?_
        refine a_opd (hs := by (simp (disch := omega) only [push_cast, hm] <;> rfl)) ?_
        iterate 5 refine a_opd ?_
        refine a_opd (hs := by (simp (disch := omega) only [push_cast, hdv] <;> rfl)) ?_
        refine a_cv8d ?_
        iterate 3 refine a_opd ?_
        refine s_nil (r_true (by kernel_rfl) ?_)
        refine q_block (q_next ?_)
        refine k_region rfl ?_
        iterate 3 refine a_op ?_
        refine s_nil (r_false ?_)
        refine q_loopF (i + 1) (a_le ?_) ?_ ?_
        · refine le_same ?_ ?_ ?_ <;> simp [-List.map_set, -List.map_replicate, -List.reduceReplicate, -List.map_map, -List.map_drop, -List.map_take, num, bol, txt, w8, w16, w32, w64, lst, cls, rowO, boxO, List.take_of_length_le, bytesB, hq, hmi', hdv]
        · (first | omega | (simp_all <;> omega))
        · (first | omega | (simp only []; omega))
      · (try simp only [Bool.and_eq_true, Bool.or_eq_true, Bool.or_eq_false_iff, Bool.not_eq_true', Bool.not_eq_false', dec_t, dec_f, Bool.and_eq_false_imp, beq_iff_eq, beq_eq_false_iff_ne, ne_eq] at hc1)
        have hq : (0 < ns.length) = False := eq_false (by omega)
        have hmi' : True := trivial
        have hdv : True := trivial
        refine k_skip ?_
        refine q_block (q_next ?_)
        refine k_region rfl ?_
        iterate 3 refine a_op ?_
        refine s_nil (r_false ?_)
        refine q_loopF (i + 1) (a_le ?_) ?_ ?_
        · refine le_same ?_ ?_ ?_ <;> simp [-List.map_set, -List.map_replicate, -List.reduceReplicate, -List.map_map, -List.map_drop, -List.map_take, num, bol, txt, w8, w16, w32, w64, lst, cls, rowO, boxO, List.take_of_length_le, bytesB, hq, hmi', hdv]
        · (first | omega | (simp_all <;> omega))
        · (first | omega | (simp only []; omega))
    · (try simp only [Bool.and_eq_true, Bool.or_eq_true, Bool.or_eq_false_iff, Bool.not_eq_true', Bool.not_eq_false', dec_t, dec_f, Bool.and_eq_false_imp, beq_iff_eq, beq_eq_false_iff_ne, ne_eq] at hc0)
      refine k_exit ?_
      refine q_seq_exit (q_loopF_exit (q_block_exit (q_next ?_)))
      refine k_seq ?_
      refine k_region rfl ?_
      obtain rfl : i = n := by omega
      refine a_op ?_
      first | refine a_text ?_ | refine a_texts ?_
      refine a_op ?_
      refine s_nil (r_false ?_)
      refine q_next ?_
      refine k_ret ?_
      refine ⟨.inr rfl, a_ret [] (by rw [results14]) ?_ ?_ ?_⟩ <;> simp [-List.map_set, -List.map_replicate, -List.reduceReplicate, -List.map_map, -List.map_drop, -List.map_take, num, bol, txt, w8, w16, w32, w64, lst, cls, rowO, boxO, List.take_of_length_le]

theorem awake_good (Γ : Gl)  : Go.Ot.Good Γ prog 9 [] [] (.t (bol true)) [] [] := by
  refine a_body F.mix func9 (by rfl) ntmps9 ?_
  refine k_seq ?_
  refine k_region rfl ?_
  refine a_op ?_
  refine s_nil (r_false ?_)
  refine q_next ?_
  refine k_seq ?_
  refine k_region rfl ?_
  refine a_call [] false (bytes_good Γ [] 64 (by simp) (by omega)) ?_
  refine a_call [] false (bytes_good Γ [] 12 (by simp) (by omega)) ?_
  refine a_op ?_
  refine a_op ?_
  refine s_nil (r_false ?_)
  refine q_next ?_
  refine k_seq ?_
  refine k_region rfl ?_
  iterate 4 refine a_op ?_
  refine a_call [] false (seal_good Γ (bytesB [] 64 64) (bytesB [] 12 12) [97, 100] [112, 108, 97, 105, 110] (by decide)) ?_
  refine a_call [] false (opened_good Γ (bytesB [] 64 64) (bytesB [] 12 12) [97, 100] [112, 108, 97, 105, 110] (bytesB_len _ _ _) (bytesB_len _ _ _) (by decide) (by decide)) ?_
  iterate 5 refine a_op ?_
  refine s_nil (r_false ?_)
  refine q_next ?_
  refine k_seq ?_
  refine k_region rfl ?_
  refine a_op ?_
  refine a_call [] false (sealno_good Γ [107] (bytesB [] 12 12) [] [120] (by decide) (by decide)) ?_
  refine a_op ?_
  refine a_op ?_
  first | refine a_go ?_ | refine a_no ?_ | refine a_may ?_
  refine a_op ?_
  refine a_op ?_
  first | refine a_go ?_ | refine a_no ?_ | refine a_may ?_
  first | refine a_go ?_ | refine a_no ?_ | refine a_may ?_
  refine a_op ?_
  refine a_op ?_
  refine s_nil (r_false ?_)
  refine q_next ?_
  refine k_ret ?_
  refine ⟨.inr rfl, a_ret [] (by rw [results9]) ?_ ?_ ?_⟩ <;> simp [-List.map_set, -List.map_replicate, -List.reduceReplicate, -List.map_map, -List.map_drop, -List.map_take, num, bol, txt, w8, w16, w32, w64, lst, cls, rowO, boxO, List.take_of_length_le]

theorem ball_good (Γ : Gl) (key nonce ad p s : List UInt8) (b0 : key.length ≤ maxLen) (b1 : nonce.length ≤ maxLen) (b2 : ad.length ≤ maxLen) (b3 : p.length ≤ maxLen) (b4 : s.length ≤ maxLen) : Go.Ot.Good Γ prog 3 [.t (txt key), .t (txt nonce), .t (txt ad), .t (txt p), .t (txt s)] [] (.t (bol true)) [] [] := by
  refine a_body F.mix func3 (by rfl) ntmps3 ?_
  refine k_seq ?_
  refine k_region rfl ?_
  refine a_op ?_
  refine s_nil (r_false ?_)
  refine q_next ?_
  refine k_seq ?_
  refine k_seq ?_
  refine k_region rfl ?_
  iterate 4 refine a_op ?_
  refine a_may ?_
  refine a_may ?_
  refine a_may ?_
  refine a_op ?_
  refine a_op ?_
  refine a_may ?_
  refine a_may ?_
  refine a_may ?_
  refine a_op ?_
  refine a_op ?_
  refine a_may ?_
  refine a_may ?_
  refine a_may ?_
  refine a_op ?_
  refine a_op ?_
  refine a_may ?_
  refine a_may ?_
  refine a_may ?_
  refine a_op ?_
  refine s_nil (r_false ?_)
  refine q_next ?_
  refine a_if (fun hc0 => ?_) (fun hc0 => ?_)
  · (try simp only [Bool.and_eq_true, Bool.or_eq_true, Bool.or_eq_false_iff, Bool.not_eq_true', Bool.not_eq_false', dec_t, dec_f, Bool.and_eq_false_imp, beq_iff_eq, beq_eq_false_iff_ne, ne_eq] at hc0)
    refine k_seq ?_
    refine k_region rfl ?_
    refine a_call [] false (awake_good Γ) ?_
    refine a_op ?_
    refine s_nil (r_false ?_)
    refine q_next ?_
    refine k_ret ?_
    refine q_seq_ret ?_
    refine ⟨.inr rfl, a_ret [] (by rw [results3]) ?_ ?_ ?_⟩ <;> simp [-List.map_set, -List.map_replicate, -List.reduceReplicate, -List.map_map, -List.map_drop, -List.map_take, num, bol, txt, w8, w16, w32, w64, lst, cls, rowO, boxO, List.take_of_length_le]
  · (try simp only [Bool.and_eq_true, Bool.or_eq_true, Bool.or_eq_false_iff, Bool.not_eq_true', Bool.not_eq_false', dec_t, dec_f, Bool.and_eq_false_imp, beq_iff_eq, beq_eq_false_iff_ne, ne_eq] at hc0)
    refine k_skip ?_
    refine q_next ?_
    refine k_seq ?_
    refine k_region rfl ?_
    iterate 4 refine a_op ?_
    refine a_call [] false (Open_good Γ key nonce ad s (by omega) (by omega)) ?_
    iterate 5 refine a_op ?_
    refine s_nil (r_false ?_)
    refine q_next ?_
    refine k_seq ?_
    refine k_region rfl ?_
    iterate 4 refine a_op ?_
    refine a_call [] false (refOpen_good Γ key nonce ad s (by omega) (by omega)) ?_
    refine a_op ?_
    refine a_op ?_
    refine s_nil (r_false ?_)
    refine q_next ?_
    refine k_seq ?_
    refine k_region rfl ?_
    iterate 4 refine a_op ?_
    refine a_call [] false (seal_good Γ key nonce ad p (by omega)) ?_
    iterate 4 refine a_op ?_
    refine a_call [] false (refseal_good Γ key nonce ad p (by omega)) ?_
    refine a_op ?_
    refine a_op ?_
    first | refine a_go ?_ | refine a_no ?_ | refine a_may ?_
    first | refine a_go ?_ | refine a_no ?_ | refine a_may ?_
    first | refine a_go ?_ | refine a_no ?_ | refine a_may ?_
    first | refine a_go ?_ | refine a_no ?_ | refine a_may ?_
    refine a_op ?_
    refine a_op ?_
    first | refine a_go ?_ | refine a_no ?_ | refine a_may ?_
    first | refine a_go ?_ | refine a_no ?_ | refine a_may ?_
    first | refine a_go ?_ | refine a_no ?_ | refine a_may ?_
    first | refine a_go ?_ | refine a_no ?_ | refine a_may ?_
    refine a_op ?_
    refine a_op ?_
    refine a_callgo [] false (awake_good Γ) ?_
    refine a_op ?_
    refine a_op ?_
    refine s_nil (r_false ?_)
    refine q_next ?_
    refine k_ret ?_
    refine ⟨.inr rfl, a_ret [] (by rw [results3]) ?_ ?_ ?_⟩ <;> simp [-List.map_set, -List.map_replicate, -List.reduceReplicate, -List.map_map, -List.map_drop, -List.map_take, num, bol, txt, w8, w16, w32, w64, lst, cls, rowO, boxO, List.take_of_length_le]

theorem bsizes_good (Γ : Gl) (x y : UInt8) (p : List UInt8) (b2 : p.length ≤ maxLen) : Go.Ot.Good Γ prog 6 [.t (w8 x), .t (w8 y), .t (txt p)] [] (.t (bol true)) [] [] := by
  have hx := x.toNat_lt
  have hy := y.toNat_lt
  obtain ⟨k, hk, hk2⟩ : ∃ k : Nat, (x.toNat : Int) % 100 = (k : Int) ∧ k < 100 := ⟨x.toNat % 100, by omega, by omega⟩
  obtain ⟨o, ho, ho2⟩ : ∃ o : Nat, (y.toNat : Int) % 24 = (o : Int) ∧ o < 24 := ⟨y.toNat % 24, by omega, by omega⟩
  refine a_body F.mix func6 (by rfl) ntmps6 ?_
  refine k_seq ?_
  refine k_region rfl ?_
  refine a_op ?_
  refine s_nil (r_false ?_)
  refine q_next ?_
  refine k_seq ?_
  refine k_seq ?_
  refine k_region rfl ?_
  iterate 3 refine a_op ?_
  refine s_nil (r_false ?_)
  refine q_next ?_
  refine a_if (fun hc0 => ?_) (fun hc0 => ?_)
  · (try simp only [Bool.and_eq_true, Bool.or_eq_true, Bool.or_eq_false_iff, Bool.not_eq_true', Bool.not_eq_false', dec_t, dec_f, Bool.and_eq_false_imp, beq_iff_eq, beq_eq_false_iff_ne, ne_eq] at hc0)
    refine k_seq ?_
    refine k_region rfl ?_
    refine a_call [] false (awake_good Γ) ?_
    refine a_op ?_
    refine s_nil (r_false ?_)
    refine q_next ?_
    refine k_ret ?_
    refine q_seq_ret ?_
    refine ⟨.inr rfl, a_ret [] (by rw [results6]) ?_ ?_ ?_⟩ <;> simp [-List.map_set, -List.map_replicate, -List.reduceReplicate, -List.map_map, -List.map_drop, -List.map_take, num, bol, txt, w8, w16, w32, w64, lst, cls, rowO, boxO, List.take_of_length_le]
  · (try simp only [Bool.and_eq_true, Bool.or_eq_true, Bool.or_eq_false_iff, Bool.not_eq_true', Bool.not_eq_false', dec_t, dec_f, Bool.and_eq_false_imp, beq_iff_eq, beq_eq_false_iff_ne, ne_eq] at hc0)
    refine k_skip ?_
    refine q_next ?_
    refine k_seq ?_
    refine k_region rfl ?_
    iterate 3 refine a_op ?_
    rw [hk]
    iterate 3 refine a_op ?_
    rw [ho]
    refine a_op ?_
    refine a_op ?_
    refine s_nil (r_false ?_)
    refine q_next ?_
    refine k_seq ?_
    refine k_region rfl ?_
    have h' : k ≠ 64 ∨ (k = 64 ∧ o ≠ 12) ∨ (k = 64 ∧ o = 12) := by omega
    rcases h' with g1 | ⟨g1, g2⟩ | ⟨g1, g2⟩
    · skip
      iterate 3 refine a_op ?_
      first | refine a_go ?_ | refine a_no ?_ | refine a_may ?_
      first | refine a_go ?_ | refine a_no ?_ | refine a_may ?_
      refine a_op ?_
      refine a_op ?_
      refine s_nil (r_false ?_)
      refine q_next ?_
      refine k_seq ?_
      refine k_region rfl ?_
      skip
      refine a_op ?_
      refine a_call [] false (bytes_good Γ [] k (by simp) (by omega)) ?_
      refine a_op ?_
      refine a_call [] false (bytes_good Γ [] o (by simp) (by omega)) ?_
      refine a_op ?_
      refine a_call [] false (sealno_good Γ (bytesB [] k k) (bytesB [] o o) [] p (by simp only [bytesB_len]; omega) (by decide)) ?_
      refine a_op ?_
      refine s_nil (r_false ?_)
      refine q_next ?_
      refine k_seq ?_
      refine k_region rfl ?_
      refine a_op ?_
      refine a_call [] false (bytes_good Γ [] k (by simp) (by omega)) ?_
      refine a_op ?_
      refine a_call [] false (bytes_good Γ [] o (by simp) (by omega)) ?_
      refine a_call [] false (bytes_good Γ [] 64 (by simp) (by omega)) ?_
      refine a_call [] false (bytes_good Γ [] 12 (by simp) (by omega)) ?_
      refine a_op ?_
      refine a_call [] false (refseal_good Γ (bytesB [] 64 64) (bytesB [] 12 12) [] p (by decide)) ?_
      refine a_call [] false (openno_good Γ (bytesB [] k k) (bytesB [] o o) [] (sealB (bytesB [] 64 64) (bytesB [] 12 12) [] p) (by simp only [bytesB_len]; omega) (by decide) (by have := sealB_le (bytesB [] 64 64) (bytesB [] 12 12) [] p; omega)) ?_
      iterate 5 refine a_op ?_
      refine s_nil (r_false ?_)
      refine q_next ?_
      refine k_seq ?_
      refine k_region rfl ?_
      skip
      refine a_op ?_
      refine a_op (hs := by (simp only [push_cast, beq_self_eq_true] <;> rfl)) ?_
      iterate 3 refine a_op ?_
      first | refine a_go ?_ | refine a_no ?_ | refine a_may ?_
      first | refine a_go ?_ | refine a_no ?_ | refine a_may ?_
      first | refine a_go ?_ | refine a_no ?_ | refine a_may ?_
      refine a_op ?_
      refine a_op ?_
      refine a_callgo [] false (awake_good Γ) ?_
      refine a_op ?_
      refine a_op ?_
      refine s_nil (r_false ?_)
      refine q_next ?_
      refine k_ret ?_
      refine ⟨.inr rfl, a_ret [] (by rw [results6]) ?_ ?_ ?_⟩ <;> simp [-List.map_set, -List.map_replicate, -List.reduceReplicate, -List.map_map, -List.map_drop, -List.map_take, num, bol, txt, w8, w16, w32, w64, lst, cls, rowO, boxO, List.take_of_length_le]
    · skip
      iterate 3 refine a_op ?_
      first | refine a_go ?_ | refine a_no ?_ | refine a_may ?_
      first | refine a_go ?_ | refine a_no ?_ | refine a_may ?_
      refine a_op ?_
      refine a_op ?_
      refine s_nil (r_false ?_)
      refine q_next ?_
      refine k_seq ?_
      refine k_region rfl ?_
      skip
      refine a_op ?_
      refine a_call [] false (bytes_good Γ [] k (by simp) (by omega)) ?_
      refine a_op ?_
      refine a_call [] false (bytes_good Γ [] o (by simp) (by omega)) ?_
      refine a_op ?_
      refine a_call [] false (sealno_good Γ (bytesB [] k k) (bytesB [] o o) [] p (by simp only [bytesB_len]; omega) (by decide)) ?_
      refine a_op ?_
      refine s_nil (r_false ?_)
      refine q_next ?_
      refine k_seq ?_
      refine k_region rfl ?_
      refine a_op ?_
      refine a_call [] false (bytes_good Γ [] k (by simp) (by omega)) ?_
      refine a_op ?_
      refine a_call [] false (bytes_good Γ [] o (by simp) (by omega)) ?_
      refine a_call [] false (bytes_good Γ [] 64 (by simp) (by omega)) ?_
      refine a_call [] false (bytes_good Γ [] 12 (by simp) (by omega)) ?_
      refine a_op ?_
      refine a_call [] false (refseal_good Γ (bytesB [] 64 64) (bytesB [] 12 12) [] p (by decide)) ?_
      refine a_call [] false (openno_good Γ (bytesB [] k k) (bytesB [] o o) [] (sealB (bytesB [] 64 64) (bytesB [] 12 12) [] p) (by simp only [bytesB_len]; omega) (by decide) (by have := sealB_le (bytesB [] 64 64) (bytesB [] 12 12) [] p; omega)) ?_
      iterate 5 refine a_op ?_
      refine s_nil (r_false ?_)
      refine q_next ?_
      refine k_seq ?_
      refine k_region rfl ?_
      skip
      refine a_op ?_
      refine a_op (hs := by (simp only [push_cast, beq_self_eq_true] <;> rfl)) ?_
      iterate 3 refine a_op ?_
      first | refine a_go ?_ | refine a_no ?_ | refine a_may ?_
      first | refine a_go ?_ | refine a_no ?_ | refine a_may ?_
      first | refine a_go ?_ | refine a_no ?_ | refine a_may ?_
      refine a_op ?_
      refine a_op ?_
      refine a_callgo [] false (awake_good Γ) ?_
      refine a_op ?_
      refine a_op ?_
      refine s_nil (r_false ?_)
      refine q_next ?_
      refine k_ret ?_
      refine ⟨.inr rfl, a_ret [] (by rw [results6]) ?_ ?_ ?_⟩ <;> simp [-List.map_set, -List.map_replicate, -List.reduceReplicate, -List.map_map, -List.map_drop, -List.map_take, num, bol, txt, w8, w16, w32, w64, lst, cls, rowO, boxO, List.take_of_length_le]
    · skip
      iterate 3 refine a_op ?_
      first | refine a_go ?_ | refine a_no ?_ | refine a_may ?_
      first | refine a_go ?_ | refine a_no ?_ | refine a_may ?_
      refine a_op ?_
      refine a_op ?_
      refine s_nil (r_false ?_)
      refine q_next ?_
      refine k_seq ?_
      refine k_region rfl ?_
      subst g1 g2
      refine a_op ?_
      refine a_call [] false (bytes_good Γ [] 64 (by simp) (by omega)) ?_
      refine a_op ?_
      refine a_call [] false (bytes_good Γ [] 12 (by simp) (by omega)) ?_
      refine a_op ?_
      refine a_call [] false (seal_good Γ (bytesB [] 64 64) (bytesB [] 12 12) [] p (by decide)) ?_
      refine a_op ?_
      refine s_nil (r_false ?_)
      refine q_next ?_
      refine k_seq ?_
      refine k_region rfl ?_
      refine a_op ?_
      refine a_call [] false (bytes_good Γ [] 64 (by simp) (by omega)) ?_
      refine a_op ?_
      refine a_call [] false (bytes_good Γ [] 12 (by simp) (by omega)) ?_
      refine a_call [] false (bytes_good Γ [] 64 (by simp) (by omega)) ?_
      refine a_call [] false (bytes_good Γ [] 12 (by simp) (by omega)) ?_
      refine a_op ?_
      refine a_call [] false (refseal_good Γ (bytesB [] 64 64) (bytesB [] 12 12) [] p (by decide)) ?_
      refine a_call [] false (opened_good Γ (bytesB [] 64 64) (bytesB [] 12 12) [] p (bytesB_len _ _ _) (bytesB_len _ _ _) (by omega) (by decide)) ?_
      iterate 5 refine a_op ?_
      refine s_nil (r_false ?_)
      refine q_next ?_
      refine k_seq ?_
      refine k_region rfl ?_
      have hs : (sealB (bytesB [] 64 64) (bytesB [] 12 12) [] p == []) = false := beq_nil (by rw [sealB_len (bytesB_len _ _ _) (bytesB_len _ _ _) (by omega)]; omega)
      refine a_op ?_
      refine a_op (hs := by (simp only [push_cast, hs] <;> rfl)) ?_
      iterate 3 refine a_op ?_
      first | refine a_go ?_ | refine a_no ?_ | refine a_may ?_
      first | refine a_go ?_ | refine a_no ?_ | refine a_may ?_
      first | refine a_go ?_ | refine a_no ?_ | refine a_may ?_
      refine a_op ?_
      refine a_op ?_
      refine a_callgo [] false (awake_good Γ) ?_
      refine a_op ?_
      refine a_op ?_
      refine s_nil (r_false ?_)
      refine q_next ?_
      refine k_ret ?_
      refine ⟨.inr rfl, a_ret [] (by rw [results6]) ?_ ?_ ?_⟩ <;> simp [-List.map_set, -List.map_replicate, -List.reduceReplicate, -List.map_map, -List.map_drop, -List.map_take, num, bol, txt, w8, w16, w32, w64, lst, cls, rowO, boxO, List.take_of_length_le]

theorem bshort_good (Γ : Gl) (ns s : List UInt8) (b0 : ns.length ≤ maxLen) (b1 : s.length ≤ maxLen) : Go.Ot.Good Γ prog 8 [.t (lst w8 ns), .t (txt s)] [] (.t (bol true)) [] [] := by
  refine a_body F.mix func8 (by rfl) ntmps8 ?_
  refine k_seq ?_
  refine k_region rfl ?_
  refine a_op ?_
  refine s_nil (r_false ?_)
  refine q_next ?_
  refine k_seq ?_
  refine k_region rfl ?_
  refine a_op ?_
  refine a_call [] false (bytes_good Γ ns 64 (b0) (by omega)) ?_
  refine a_call [] false (bytes_good Γ [] 12 (by simp) (by omega)) ?_
  refine a_op ?_
  refine a_op ?_
  refine s_nil (r_false ?_)
  refine q_next ?_
  refine k_seq ?_
  refine k_seq ?_
  refine k_region rfl ?_
  iterate 3 refine a_op ?_
  refine s_nil (r_false ?_)
  refine q_next ?_
  refine a_if (fun hc0 => ?_) (fun hc0 => ?_)
  · (try simp only [Bool.and_eq_true, Bool.or_eq_true, Bool.or_eq_false_iff, Bool.not_eq_true', Bool.not_eq_false', dec_t, dec_f, Bool.and_eq_false_imp, beq_iff_eq, beq_eq_false_iff_ne, ne_eq] at hc0)
    refine k_region rfl ?_
    iterate 3 refine a_op ?_
    refine s_nil (r_false ?_)
    refine q_next ?_
    refine k_seq ?_
    refine k_region rfl ?_
    iterate 3 refine a_op ?_
    refine a_call [] false (openno_good Γ (bytesB ns 64 64) (bytesB [] 12 12) [] (s.take 15) (by intro h; have := h.2.2.1; (try simp at this); omega) (by decide) (by (try simp); omega)) ?_
    iterate 5 refine a_op ?_
    refine s_nil (r_false ?_)
    refine q_next ?_
    refine k_seq ?_
    refine k_region rfl ?_
    iterate 4 refine a_op ?_
    refine a_call [] false (seal_good Γ (bytesB ns 64 64) (bytesB [] 12 12) [] [] (by decide)) ?_
    refine a_call [] false (opened_good Γ (bytesB ns 64 64) (bytesB [] 12 12) [] [] (bytesB_len _ _ _) (bytesB_len _ _ _) (by decide) (by decide)) ?_
    iterate 5 refine a_op ?_
    refine s_nil (r_false ?_)
    refine q_next ?_
    refine k_seq ?_
    refine k_region rfl ?_
    iterate 3 refine a_op ?_
    first | refine a_go ?_ | refine a_no ?_ | refine a_may ?_
    first | refine a_go ?_ | refine a_no ?_ | refine a_may ?_
    refine a_op ?_
    refine a_op ?_
    first | refine a_go ?_ | refine a_no ?_ | refine a_may ?_
    refine a_op ?_
    refine a_op ?_
    first | refine a_go ?_ | refine a_no ?_ | refine a_may ?_
    first | refine a_go ?_ | refine a_no ?_ | refine a_may ?_
    refine a_op ?_
    refine a_op ?_
    refine a_callgo [] false (awake_good Γ) ?_
    refine a_op ?_
    refine a_op ?_
    refine s_nil (r_false ?_)
    refine q_next ?_
    refine k_ret ?_
    refine ⟨.inr rfl, a_ret [] (by rw [results8]) ?_ ?_ ?_⟩ <;> simp [-List.map_set, -List.map_replicate, -List.reduceReplicate, -List.map_map, -List.map_drop, -List.map_take, num, bol, txt, w8, w16, w32, w64, lst, cls, rowO, boxO, List.take_of_length_le]
  · (try simp only [Bool.and_eq_true, Bool.or_eq_true, Bool.or_eq_false_iff, Bool.not_eq_true', Bool.not_eq_false', dec_t, dec_f, Bool.and_eq_false_imp, beq_iff_eq, beq_eq_false_iff_ne, ne_eq] at hc0)
    refine k_skip ?_
    refine q_next ?_
    refine k_seq ?_
    refine k_region rfl ?_
    iterate 3 refine a_op ?_
    refine a_call [] false (openno_good Γ (bytesB ns 64 64) (bytesB [] 12 12) [] s (by intro h; have := h.2.2.1; (try simp at this); omega) (by decide) (by (try simp); omega)) ?_
    iterate 5 refine a_op ?_
    refine s_nil (r_false ?_)
    refine q_next ?_
    refine k_seq ?_
    refine k_region rfl ?_
    iterate 4 refine a_op ?_
    refine a_call [] false (seal_good Γ (bytesB ns 64 64) (bytesB [] 12 12) [] [] (by decide)) ?_
    refine a_call [] false (opened_good Γ (bytesB ns 64 64) (bytesB [] 12 12) [] [] (bytesB_len _ _ _) (bytesB_len _ _ _) (by decide) (by decide)) ?_
    iterate 5 refine a_op ?_
    refine s_nil (r_false ?_)
    refine q_next ?_
    refine k_seq ?_
    refine k_region rfl ?_
    iterate 3 refine a_op ?_
    first | refine a_go ?_ | refine a_no ?_ | refine a_may ?_
    first | refine a_go ?_ | refine a_no ?_ | refine a_may ?_
    refine a_op ?_
    refine a_op ?_
    first | refine a_go ?_ | refine a_no ?_ | refine a_may ?_
    refine a_op ?_
    refine a_op ?_
    first | refine a_go ?_ | refine a_no ?_ | refine a_may ?_
    first | refine a_go ?_ | refine a_no ?_ | refine a_may ?_
    refine a_op ?_
    refine a_op ?_
    refine a_callgo [] false (awake_good Γ) ?_
    refine a_op ?_
    refine a_op ?_
    refine s_nil (r_false ?_)
    refine q_next ?_
    refine k_ret ?_
    refine ⟨.inr rfl, a_ret [] (by rw [results8]) ?_ ?_ ?_⟩ <;> simp [-List.map_set, -List.map_replicate, -List.reduceReplicate, -List.map_map, -List.map_drop, -List.map_take, num, bol, txt, w8, w16, w32, w64, lst, cls, rowO, boxO, List.take_of_length_le]

end Go.Proofs.Try
