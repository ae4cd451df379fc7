import Derived.Test.YtihkemlgdfjmjaaDoorSK3
set_option maxHeartbeats 4000000
set_option maxRecDepth 100000
set_option linter.unusedVariables false
set_option linter.unusedSimpArgs false
namespace Go.Proofs.Tryd
open Go Go.Ot
attribute [local irreducible] wpK wpS seqK blockK loopF regK meetK OpSpec Le sched wordTo rnds addTo rotr chunks takeB be64 outB sha padB xorTo keyB hmacB orTo keyOf hk hkAll derB derX
theorem e0 : eight 1 = [0, 0, 0, 0, 0, 0, 0, 1] := by decide +kernel
theorem itoa3 (Γ : Gl) : Go.Ot.Good Γ prog 22 [.t (num 3)] [] (.t (txt (Lib.itoa 3))) [] [] := itoas_good Γ 3 (by decide)
theorem itoa3_len : (Lib.itoa 3).length ≤ 20 := itoa_len 3 (by decide) (by decide)
theorem ow_len : (derX [100, 101, 97, 100, 100, 114, 111, 112] [109] (111 :: 119 :: 110 :: 32 :: Lib.itoa 3) 32).length = 32 := dX_len _ _ _ 32 (by decide)
theorem wr_len : (derX [100, 101, 97, 100, 100, 114, 111, 112] [111] [119, 114, 97, 112] 64).length = 64 := dX_len _ _ _ 64 (by decide)
theorem awake_good (Γ : Gl)  : Go.Ot.Good Γ prog 7 [] [] (.t (bol true)) [] [] := by
  refine a_body F.mix func7 (by rfl) ntmps7 ?_
  refine k_seq ?_
  refine k_region rfl ?_
  refine a_op ?_
  refine s_nil (r_false ?_)
  refine q_next ?_
  refine k_seq ?_
  refine k_region rfl ?_
  refine a_call [] false (nonce_good Γ 1) ?_
  refine a_op (hs := by (simp only [push_cast, e0] <;> rfl)) ?_
  refine a_op ?_
  refine a_callgo [] false (Own_good Γ [109] (by decide) 3 (itoa3 Γ) itoa3_len) ?_
  refine a_go (hs := by (simp only [push_cast, ow_len] <;> rfl)) ?_
  first | refine a_go ?_ | refine a_no ?_ | refine a_may ?_
  refine a_op ?_
  refine a_op ?_
  refine a_callgo [] false (Wrap_good Γ [111] (by decide)) ?_
  refine a_go (hs := by (simp only [push_cast, wr_len] <;> rfl)) ?_
  first | refine a_go ?_ | refine a_no ?_ | refine a_may ?_
  refine a_op ?_
  refine a_op ?_
  refine s_nil (r_false ?_)
  refine q_next ?_
  refine k_ret ?_
  refine ⟨.inr rfl, a_ret [] (by rw [results7]) ?_ ?_ ?_⟩ <;> simp [-List.map_set, -List.map_replicate, -List.reduceReplicate, -List.map_map, -List.map_drop, -List.map_take, num, bol, txt, w8, w16, w32, w64, lst, cls, rowO, boxO, List.take_of_length_le]

theorem kall_good (Γ : Gl) (hT : TG prog Γ) (key : List UInt8) (n : Int) (hk : key.length ≤ maxLen) (h0 : -9223372036854775808 ≤ n) (h1 : n ≤ 9223372036854775807) : Go.Ot.Good Γ prog 4 [.t (txt key), .t (num n)] [] (.t (bol true)) [] [] := by
  refine a_body F.mix func4 (by rfl) ntmps4 ?_
  refine k_seq ?_
  refine k_region rfl ?_
  refine a_op ?_
  refine s_nil (r_false ?_)
  refine q_next ?_
  refine k_seq ?_
  refine k_seq ?_
  refine k_region rfl ?_
  iterate 3 refine a_op ?_
  refine s_nil (r_false ?_)
  refine q_next ?_
  refine a_if (fun hc0 => ?_) (fun hc0 => ?_)
  · (try simp only [Bool.and_eq_true, Bool.or_eq_true, Bool.or_eq_false_iff, Bool.not_eq_true', Bool.not_eq_false', dec_t, dec_f, Bool.and_eq_false_imp, beq_iff_eq, beq_eq_false_iff_ne, ne_eq] at hc0)
    refine k_seq ?_
    refine k_region rfl ?_
    refine a_call [] false (awake_good Γ) ?_
    refine a_op ?_
    refine s_nil (r_false ?_)
    refine q_next ?_
    refine k_ret ?_
    refine q_seq_ret ?_
    refine ⟨.inr rfl, a_ret [] (by rw [results4]) ?_ ?_ ?_⟩ <;> simp [-List.map_set, -List.map_replicate, -List.reduceReplicate, -List.map_map, -List.map_drop, -List.map_take, num, bol, txt, w8, w16, w32, w64, lst, cls, rowO, boxO, List.take_of_length_le]
  · (try simp only [Bool.and_eq_true, Bool.or_eq_true, Bool.or_eq_false_iff, Bool.not_eq_true', Bool.not_eq_false', dec_t, dec_f, Bool.and_eq_false_imp, beq_iff_eq, beq_eq_false_iff_ne, ne_eq] at hc0)
    refine k_skip ?_
    refine q_next ?_
    refine k_seq ?_
    refine k_region rfl ?_
    refine a_op ?_
    refine a_op ?_
    refine a_call [] false (Own_good Γ key (by omega) n (itoa_good Γ hT n h0 h1) (itoa_len n h0 h1)) ?_
    refine a_op ?_
    refine a_op ?_
    refine a_call [] false (refOwn_good Γ key (by omega) n h0 h1) ?_
    refine a_op ?_
    refine a_op ?_
    refine a_go ?_
    refine a_go ?_
    refine a_callgo [] false (Epoch_good Γ key (by omega) n (itoa_good Γ hT n h0 h1) (itoa_len n h0 h1)) ?_
    refine a_go ?_
    refine a_go ?_
    refine a_callgo [] false (refEpoch_good Γ key (by omega) n h0 h1) ?_
    refine a_go ?_
    refine a_op ?_
    refine a_op ?_
    refine a_go ?_
    refine a_go ?_
    refine a_callgo [] false (Send_good Γ key (by omega) n (itoa_good Γ hT n h0 h1) (itoa_len n h0 h1)) ?_
    refine a_go ?_
    refine a_go ?_
    refine a_callgo [] false (refSend_good Γ key (by omega) n h0 h1) ?_
    refine a_go ?_
    refine a_op ?_
    refine a_op ?_
    refine a_go ?_
    refine a_callgo [] false (Wrap_good Γ key (by omega)) ?_
    refine a_go ?_
    refine a_callgo [] false (refWrap_good Γ key (by omega)) ?_
    refine a_go ?_
    refine a_op ?_
    refine a_op ?_
    refine a_go ?_
    refine a_callgo [] false (nonce_good Γ n) ?_
    refine a_go ?_
    refine a_callgo [] false (refnonce_good Γ n) ?_
    refine a_go ?_
    refine a_op ?_
    refine a_op ?_
    refine a_callgo [] false (awake_good Γ) ?_
    refine a_op ?_
    refine a_op ?_
    refine s_nil (r_false ?_)
    refine q_next ?_
    refine k_ret ?_
    refine ⟨.inr rfl, a_ret [] (by rw [results4]) ?_ ?_ ?_⟩ <;> simp [-List.map_set, -List.map_replicate, -List.reduceReplicate, -List.map_map, -List.map_drop, -List.map_take, num, bol, txt, w8, w16, w32, w64, lst, cls, rowO, boxO, List.take_of_length_le]

theorem kder_good (Γ : Gl) (hT : TG prog Γ) (key : List UInt8) (n : UInt16) (hk : key.length ≤ maxLen) : Go.Ot.Good Γ prog 5 [.t (txt key), .t (w16 n)] [] (.t (bol true)) [] [] := by
  have hn := n.toNat_lt
  have hl := itoa_len (n.toNat : Int) (by omega) (by omega)
  refine a_body F.mix func5 (by rfl) ntmps5 ?_
  refine k_seq ?_
  refine k_region rfl ?_
  refine a_op ?_
  refine s_nil (r_false ?_)
  refine q_next ?_
  refine k_seq ?_
  refine k_seq ?_
  refine k_region rfl ?_
  iterate 3 refine a_op ?_
  refine s_nil (r_false ?_)
  refine q_next ?_
  refine a_if (fun hc0 => ?_) (fun hc0 => ?_)
  · (try simp only [Bool.and_eq_true, Bool.or_eq_true, Bool.or_eq_false_iff, Bool.not_eq_true', Bool.not_eq_false', dec_t, dec_f, Bool.and_eq_false_imp, beq_iff_eq, beq_eq_false_iff_ne, ne_eq] at hc0)
    refine k_seq ?_
    refine k_region rfl ?_
    refine a_call [] false (awake_good Γ) ?_
    refine a_op ?_
    refine s_nil (r_false ?_)
    refine q_next ?_
    refine k_ret ?_
    refine q_seq_ret ?_
    refine ⟨.inr rfl, a_ret [] (by rw [results5]) ?_ ?_ ?_⟩ <;> simp [-List.map_set, -List.map_replicate, -List.reduceReplicate, -List.map_map, -List.map_drop, -List.map_take, num, bol, txt, w8, w16, w32, w64, lst, cls, rowO, boxO, List.take_of_length_le]
  · (try simp only [Bool.and_eq_true, Bool.or_eq_true, Bool.or_eq_false_iff, Bool.not_eq_true', Bool.not_eq_false', dec_t, dec_f, Bool.and_eq_false_imp, beq_iff_eq, beq_eq_false_iff_ne, ne_eq] at hc0)
    refine k_skip ?_
    refine q_next ?_
    refine k_seq ?_
    refine k_region rfl ?_
    refine a_op ?_
    refine a_op ?_
    refine a_call [] false (dig_good Γ (n.toNat : Int) (by omega) (by omega)) ?_
    refine a_op ?_
    refine s_nil (r_false ?_)
    refine q_next ?_
    refine k_seq ?_
    refine k_region rfl ?_
    iterate 3 refine a_op ?_
    refine a_call [] false (Own_good Γ key (by omega) (n.toNat : Int) (itoa_good Γ hT (n.toNat : Int) (by omega) (by omega)) (itoa_len (n.toNat : Int) (by omega) (by omega))) ?_
    iterate 3 refine a_op ?_
    refine a_call [] false (refderive_good Γ [100, 101, 97, 100, 100, 114, 111, 112] key (111 :: 119 :: 110 :: 32 :: Lib.itoa (n.toNat : Int)) 32 (by decide) (by omega) (by simp only [List.length_cons, List.length_nil]; omega)) ?_
    refine a_op ?_
    refine a_op ?_
    refine a_go ?_
    refine a_go ?_
    refine a_go ?_
    refine a_callgo [] false (Epoch_good Γ key (by omega) (n.toNat : Int) (itoa_good Γ hT (n.toNat : Int) (by omega) (by omega)) (itoa_len (n.toNat : Int) (by omega) (by omega))) ?_
    refine a_go ?_
    refine a_go ?_
    refine a_go ?_
    refine a_callgo [] false (refderive_good Γ [100, 101, 97, 100, 100, 114, 111, 112] key (101 :: 112 :: 111 :: 99 :: 104 :: 32 :: Lib.itoa (n.toNat : Int)) 32 (by decide) (by omega) (by simp only [List.length_cons, List.length_nil]; omega)) ?_
    refine a_go ?_
    refine a_op ?_
    refine a_op ?_
    refine a_go ?_
    refine a_go ?_
    refine a_go ?_
    refine a_callgo [] false (Send_good Γ key (by omega) (n.toNat : Int) (itoa_good Γ hT (n.toNat : Int) (by omega) (by omega)) (itoa_len (n.toNat : Int) (by omega) (by omega))) ?_
    refine a_go ?_
    refine a_go ?_
    refine a_go ?_
    refine a_callgo [] false (refderive_good Γ [100, 101, 97, 100, 100, 114, 111, 112] key (115 :: 101 :: 110 :: 100 :: 32 :: Lib.itoa (n.toNat : Int)) 64 (by decide) (by omega) (by simp only [List.length_cons, List.length_nil]; omega)) ?_
    refine a_go ?_
    refine a_op ?_
    refine a_op ?_
    refine a_go ?_
    refine a_callgo [] false (Wrap_good Γ key (by omega)) ?_
    refine a_go ?_
    refine a_callgo [] false (refderive_good Γ [100, 101, 97, 100, 100, 114, 111, 112] key [119, 114, 97, 112] 64 (by decide) (by omega) (by decide)) ?_
    refine a_go ?_
    refine a_op ?_
    refine a_op ?_
    refine a_callgo [] false (awake_good Γ) ?_
    refine a_op ?_
    refine a_op ?_
    refine s_nil (r_false ?_)
    refine q_next ?_
    refine k_ret ?_
    refine ⟨.inr rfl, a_ret [] (by rw [results5]) ?_ ?_ ?_⟩ <;> simp [-List.map_set, -List.map_replicate, -List.reduceReplicate, -List.map_map, -List.map_drop, -List.map_take, num, bol, txt, w8, w16, w32, w64, lst, cls, rowO, boxO, List.take_of_length_le]

theorem knon_good (Γ : Gl) (a b : Int) (a0 : -9223372036854775808 ≤ a) (a1 : a ≤ 9223372036854775807) (b0 : -9223372036854775808 ≤ b) (b1 : b ≤ 9223372036854775807) : Go.Ot.Good Γ prog 3 [.t (num a), .t (num b)] [] (.t (bol true)) [] [] := by
  refine a_body F.mix func3 (by rfl) ntmps3 ?_
  refine k_seq ?_
  refine k_region rfl ?_
  refine a_op ?_
  refine s_nil (r_false ?_)
  refine q_next ?_
  refine k_seq ?_
  refine k_region rfl ?_
  refine a_op ?_
  refine a_call [] false (nonce_good Γ a) ?_
  refine a_op ?_
  refine a_call [] false (nonce_good Γ b) ?_
  refine a_op ?_
  refine a_op ?_
  refine s_nil (r_false ?_)
  refine q_next ?_
  refine k_seq ?_
  refine k_region rfl ?_
  iterate 4 refine a_op ?_
  refine a_go ?_
  refine a_go ?_
  refine a_go ?_
  refine a_op ?_
  refine a_op ?_
  refine a_go ?_
  refine a_go ?_
  refine a_go ?_
  refine a_go ?_
  refine a_go ?_
  refine a_go ?_
  refine a_go (hs := by (simp only [push_cast, nn_eq a0 a1 b0 b1] <;> rfl)) ?_
  refine a_op ?_
  refine a_op ?_
  refine a_go ?_
  refine a_go ?_
  refine a_go ?_
  refine a_op ?_
  refine a_op ?_
  refine a_callgo [] false (awake_good Γ) ?_
  refine a_op ?_
  refine a_op ?_
  refine s_nil (r_false ?_)
  refine q_next ?_
  refine k_ret ?_
  refine ⟨.inr rfl, a_ret [] (by rw [results3]) ?_ ?_ ?_⟩ <;> simp [-List.map_set, -List.map_replicate, -List.reduceReplicate, -List.map_map, -List.map_drop, -List.map_take, num, bol, txt, w8, w16, w32, w64, lst, cls, rowO, boxO, List.take_of_length_le]

end Go.Proofs.Tryd
