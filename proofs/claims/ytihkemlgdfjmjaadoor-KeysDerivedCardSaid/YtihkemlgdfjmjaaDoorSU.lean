import Derived.Test.YtihkemlgdfjmjaaDoorSU0
set_option maxHeartbeats 4000000
set_option maxRecDepth 100000
set_option linter.unusedVariables false
set_option linter.unusedSimpArgs false
namespace Go.Proofs.Tryd
open Go Go.Ot
attribute [local irreducible] wpK wpS seqK blockK loopF regK meetK OpSpec Le sched wordTo rnds addTo rotr chunks takeB be64 outB sha padB xorTo keyB hmacB orTo keyOf hk hkAll derB adr
theorem sized_ok (Γ : Gl) (n : Int) (h0 : 0 ≤ n) (h1 : n ≤ 8160) : Go.Ot.Good Γ prog 27 [.t (num n)] [] (.t (.v .nilIface)) [] [] := by
  refine a_body F.mix func27 (by rfl) ntmps27 ?_
  refine k_seq ?_
  refine k_region rfl ?_
  refine a_op ?_
  refine s_nil (r_false ?_)
  refine q_next ?_
  refine k_seq ?_
  refine k_block ?_
  refine k_seq ?_
  refine k_region rfl ?_
  iterate 3 refine a_op ?_
  refine s_nil (r_false ?_)
  refine q_next ?_
  refine a_if (fun hc0 => ?_) (fun hc0 => ?_)
  · (try simp only [Bool.and_eq_true, Bool.or_eq_true, Bool.or_eq_false_iff, Bool.not_eq_true', Bool.not_eq_false', dec_t, dec_f, Bool.and_eq_false_imp, beq_iff_eq, beq_eq_false_iff_ne, ne_eq] at hc0)
    omega
  · (try simp only [Bool.and_eq_true, Bool.or_eq_true, Bool.or_eq_false_iff, Bool.not_eq_true', Bool.not_eq_false', dec_t, dec_f, Bool.and_eq_false_imp, beq_iff_eq, beq_eq_false_iff_ne, ne_eq] at hc0)
    refine k_seq ?_
    refine k_region rfl ?_
    iterate 3 refine a_op ?_
    refine s_nil (r_false ?_)
    refine q_next ?_
    refine a_if (fun hc1 => ?_) (fun hc1 => ?_)
    · (try simp only [Bool.and_eq_true, Bool.or_eq_true, Bool.or_eq_false_iff, Bool.not_eq_true', Bool.not_eq_false', dec_t, dec_f, Bool.and_eq_false_imp, beq_iff_eq, beq_eq_false_iff_ne, ne_eq] at hc1)
      omega
    · (try simp only [Bool.and_eq_true, Bool.or_eq_true, Bool.or_eq_false_iff, Bool.not_eq_true', Bool.not_eq_false', dec_t, dec_f, Bool.and_eq_false_imp, beq_iff_eq, beq_eq_false_iff_ne, ne_eq] at hc1)
      refine k_skip ?_
      refine q_block (q_next ?_)
      refine k_seq ?_
      refine k_region rfl ?_
      refine a_op ?_
      refine s_nil (r_false ?_)
      refine q_next ?_
      refine k_ret ?_
      refine ⟨.inr rfl, a_ret [] (by rw [results27]) ?_ ?_ ?_⟩ <;> simp [-List.map_set, -List.map_replicate, -List.reduceReplicate, -List.map_map, -List.map_drop, -List.map_take, num, bol, txt, w8, w16, w32, w64, lst, cls, rowO, boxO, List.take_of_length_le]

theorem sized_lo (Γ : Gl) (n : Int) (h0 : n < 0) : Go.Ot.Good Γ prog 27 [.t (num n)] [] (.t (.ifc 58 (.agg [.ifc 42 (txt [98, 101, 108, 111, 119, 32, 110, 111, 117, 103, 104, 116])]))) [] [] := by
  refine a_body F.mix func27 (by rfl) ntmps27 ?_
  refine k_seq ?_
  refine k_region rfl ?_
  refine a_op ?_
  refine s_nil (r_false ?_)
  refine q_next ?_
  refine k_seq ?_
  refine k_block ?_
  refine k_seq ?_
  refine k_region rfl ?_
  iterate 3 refine a_op ?_
  refine s_nil (r_false ?_)
  refine q_next ?_
  refine a_if (fun hc0 => ?_) (fun hc0 => ?_)
  · (try simp only [Bool.and_eq_true, Bool.or_eq_true, Bool.or_eq_false_iff, Bool.not_eq_true', Bool.not_eq_false', dec_t, dec_f, Bool.and_eq_false_imp, beq_iff_eq, beq_eq_false_iff_ne, ne_eq] at hc0)
    refine k_seq ?_
    refine k_region rfl ?_
    iterate 4 refine a_op ?_
    refine s_nil (r_false ?_)
    refine q_next ?_
    refine k_ret ?_
    refine q_block_ret (q_seq_ret ?_)
    refine ⟨.inr rfl, a_ret [] (by rw [results27]) ?_ ?_ ?_⟩ <;> simp [-List.map_set, -List.map_replicate, -List.reduceReplicate, -List.map_map, -List.map_drop, -List.map_take, num, bol, txt, w8, w16, w32, w64, lst, cls, rowO, boxO, List.take_of_length_le]
  · (try simp only [Bool.and_eq_true, Bool.or_eq_true, Bool.or_eq_false_iff, Bool.not_eq_true', Bool.not_eq_false', dec_t, dec_f, Bool.and_eq_false_imp, beq_iff_eq, beq_eq_false_iff_ne, ne_eq] at hc0)
    omega

theorem sized_hi (Γ : Gl) (n : Int) (h0 : 8160 < n) : Go.Ot.Good Γ prog 27 [.t (num n)] [] (.t (.ifc 58 (.agg [.ifc 42 (txt [116, 111, 111, 32, 109, 97, 110, 121])]))) [] [] := by
  refine a_body F.mix func27 (by rfl) ntmps27 ?_
  refine k_seq ?_
  refine k_region rfl ?_
  refine a_op ?_
  refine s_nil (r_false ?_)
  refine q_next ?_
  refine k_seq ?_
  refine k_block ?_
  refine k_seq ?_
  refine k_region rfl ?_
  iterate 3 refine a_op ?_
  refine s_nil (r_false ?_)
  refine q_next ?_
  refine a_if (fun hc0 => ?_) (fun hc0 => ?_)
  · (try simp only [Bool.and_eq_true, Bool.or_eq_true, Bool.or_eq_false_iff, Bool.not_eq_true', Bool.not_eq_false', dec_t, dec_f, Bool.and_eq_false_imp, beq_iff_eq, beq_eq_false_iff_ne, ne_eq] at hc0)
    omega
  · (try simp only [Bool.and_eq_true, Bool.or_eq_true, Bool.or_eq_false_iff, Bool.not_eq_true', Bool.not_eq_false', dec_t, dec_f, Bool.and_eq_false_imp, beq_iff_eq, beq_eq_false_iff_ne, ne_eq] at hc0)
    refine k_seq ?_
    refine k_region rfl ?_
    iterate 3 refine a_op ?_
    refine s_nil (r_false ?_)
    refine q_next ?_
    refine a_if (fun hc1 => ?_) (fun hc1 => ?_)
    · (try simp only [Bool.and_eq_true, Bool.or_eq_true, Bool.or_eq_false_iff, Bool.not_eq_true', Bool.not_eq_false', dec_t, dec_f, Bool.and_eq_false_imp, beq_iff_eq, beq_eq_false_iff_ne, ne_eq] at hc1)
      refine k_seq ?_
      refine k_region rfl ?_
      iterate 4 refine a_op ?_
      refine s_nil (r_false ?_)
      refine q_next ?_
      refine k_ret ?_
      refine q_block_ret (q_seq_ret ?_)
      refine ⟨.inr rfl, a_ret [] (by rw [results27]) ?_ ?_ ?_⟩ <;> simp [-List.map_set, -List.map_replicate, -List.reduceReplicate, -List.map_map, -List.map_drop, -List.map_take, num, bol, txt, w8, w16, w32, w64, lst, cls, rowO, boxO, List.take_of_length_le]
    · (try simp only [Bool.and_eq_true, Bool.or_eq_true, Bool.or_eq_false_iff, Bool.not_eq_true', Bool.not_eq_false', dec_t, dec_f, Bool.and_eq_false_imp, beq_iff_eq, beq_eq_false_iff_ne, ne_eq] at hc1)
      omega

theorem eq_lo_lo (w : World) : (binOp .eql 39 (.iface 42 (.string (S [98, 101, 108, 111, 119, 32, 110, 111, 117, 103, 104, 116]))) (.iface 42 (.string (S [98, 101, 108, 111, 119, 32, 110, 111, 117, 103, 104, 116])))).run prog w = .ok (.bool true) w := by kernel_rfl
theorem eq_hi_lo (w : World) : (binOp .eql 39 (.iface 42 (.string (S [116, 111, 111, 32, 109, 97, 110, 121]))) (.iface 42 (.string (S [98, 101, 108, 111, 119, 32, 110, 111, 117, 103, 104, 116])))).run prog w = .ok (.bool false) w := by kernel_rfl
theorem eq_hi_hi (w : World) : (binOp .eql 39 (.iface 42 (.string (S [116, 111, 111, 32, 109, 97, 110, 121]))) (.iface 42 (.string (S [116, 111, 111, 32, 109, 97, 110, 121])))).run prog w = .ok (.bool true) w := by kernel_rfl
theorem derive_lo (Γ : Gl) (a b c : List UInt8) (n : Int) (h0 : n < 0) : Go.Ot.Good Γ prog 23 [.t (txt a), .t (txt b), .t (txt c), .t (num n)] [] (.t (txt [])) [] [] := by
  refine a_body F.mix func23 (by rfl) ntmps23 ?_
  refine k_seq ?_
  refine k_region rfl ?_
  refine a_op ?_
  refine s_nil (r_false ?_)
  refine q_next ?_
  refine k_seq ?_
  refine k_seq ?_
  refine k_region rfl ?_
  refine a_op ?_
  refine a_call [] false (sized_lo Γ n h0) ?_
  refine a_op ?_
  refine s_nil (r_false ?_)
  refine q_next ?_
  refine k_seq ?_
  refine k_region rfl ?_
  refine a_op ?_
  refine a_op ?_
  refine a_call [] false (is_good Γ [98, 101, 108, 111, 119, 32, 110, 111, 117, 103, 104, 116] [98, 101, 108, 111, 119, 32, 110, 111, 117, 103, 104, 116] true (fun w => eq_lo_lo w)) ?_
  refine a_op ?_
  refine a_no ?_
  refine a_no ?_
  refine a_no ?_
  refine a_op ?_
  refine s_nil (r_false ?_)
  refine q_next ?_
  refine a_true ?_
  refine k_seq ?_
  refine k_region rfl ?_
  refine a_op ?_
  refine s_nil (r_false ?_)
  refine q_next ?_
  refine k_ret ?_
  refine q_seq_ret ?_
  refine ⟨.inr rfl, a_ret [] (by rw [results23]) ?_ ?_ ?_⟩ <;> simp [-List.map_set, -List.map_replicate, -List.reduceReplicate, -List.map_map, -List.map_drop, -List.map_take, num, bol, txt, w8, w16, w32, w64, lst, cls, rowO, boxO, List.take_of_length_le]

theorem derive_hi (Γ : Gl) (a b c : List UInt8) (n : Int) (h0 : 8160 < n) : Go.Ot.Good Γ prog 23 [.t (txt a), .t (txt b), .t (txt c), .t (num n)] [] (.t (txt [])) [] [] := by
  refine a_body F.mix func23 (by rfl) ntmps23 ?_
  refine k_seq ?_
  refine k_region rfl ?_
  refine a_op ?_
  refine s_nil (r_false ?_)
  refine q_next ?_
  refine k_seq ?_
  refine k_seq ?_
  refine k_region rfl ?_
  refine a_op ?_
  refine a_call [] false (sized_hi Γ n h0) ?_
  refine a_op ?_
  refine s_nil (r_false ?_)
  refine q_next ?_
  refine k_seq ?_
  refine k_region rfl ?_
  refine a_op ?_
  refine a_op ?_
  refine a_call [] false (is_good Γ [116, 111, 111, 32, 109, 97, 110, 121] [98, 101, 108, 111, 119, 32, 110, 111, 117, 103, 104, 116] false (fun w => eq_hi_lo w)) ?_
  refine a_op ?_
  refine a_go ?_
  refine a_go ?_
  refine a_callgo [] false (is_good Γ [116, 111, 111, 32, 109, 97, 110, 121] [116, 111, 111, 32, 109, 97, 110, 121] true (fun w => eq_hi_hi w)) ?_
  refine a_op ?_
  refine s_nil (r_false ?_)
  refine q_next ?_
  refine a_true ?_
  refine k_seq ?_
  refine k_region rfl ?_
  refine a_op ?_
  refine s_nil (r_false ?_)
  refine q_next ?_
  refine k_ret ?_
  refine q_seq_ret ?_
  refine ⟨.inr rfl, a_ret [] (by rw [results23]) ?_ ?_ ?_⟩ <;> simp [-List.map_set, -List.map_replicate, -List.reduceReplicate, -List.map_map, -List.map_drop, -List.map_take, num, bol, txt, w8, w16, w32, w64, lst, cls, rowO, boxO, List.take_of_length_le]

theorem derive_pos (Γ : Gl) (a b c : List UInt8) (n : Nat) (h0 : 0 < n) (h1 : n ≤ 8160) (ha : a.length ≤ 1000000) (hb : b.length ≤ 1000000) (hc : c.length ≤ 1000000) (H : List UInt8 → List UInt8 → List UInt8) (hH : ∀ k s, (H k s).length = 32) (hmac : ∀ (key : List UInt8) (l : List (List UInt8)), key.length ≤ 100000000 → l.length ≤ 100000000 → l.flatten.length ≤ 100000000 → Go.Ot.Good Γ prog 29 [.t (txt key), .t (lst txt l)] [] (.t (txt (H key l.flatten))) [] []) : Go.Ot.Good Γ prog 23 [.t (txt a), .t (txt b), .t (txt c), .t (num n)] [] (.t (txt (derB H a b c n))) [] [] := by
  refine a_body F.mix func23 (by rfl) ntmps23 ?_
  refine k_seq ?_
  refine k_region rfl ?_
  refine a_op ?_
  refine s_nil (r_false ?_)
  refine q_next ?_
  refine k_seq ?_
  refine k_seq ?_
  refine k_region rfl ?_
  refine a_op ?_
  refine a_call [] false (sized_ok Γ n (by omega) (by omega)) ?_
  refine a_op ?_
  refine s_nil (r_false ?_)
  refine q_next ?_
  refine k_seq ?_
  refine k_region rfl ?_
  refine a_op ?_
  refine a_op ?_
  refine a_call [] false (isnil_good Γ [98, 101, 108, 111, 119, 32, 110, 111, 117, 103, 104, 116]) ?_
  refine a_op ?_
  refine a_go ?_
  refine a_go ?_
  refine a_callgo [] false (isnil_good Γ [116, 111, 111, 32, 109, 97, 110, 121]) ?_
  refine a_op ?_
  refine s_nil (r_false ?_)
  refine q_next ?_
  refine a_false ?_
  refine k_skip ?_
  refine q_next ?_
  refine k_seq ?_
  refine k_region rfl ?_
  iterate 3 refine a_op ?_
  refine a_call [.r 4 2 0] false (hmac a [b] (by omega) (by simp) (by simp; omega)) ?_
  refine a_op ?_
  refine s_nil (r_false ?_)
  refine q_next ?_
  refine k_seq ?_
  refine k_region rfl ?_
  refine a_op ?_
  refine s_nil (r_false ?_)
  refine q_next ?_
  refine k_seq ?_
  refine k_region rfl ?_
  refine a_op ?_
  refine s_nil (r_false ?_)
  refine q_next ?_
  refine k_seq ?_
  refine k_seq ?_
  refine k_region rfl ?_
  refine a_op ?_
  refine s_nil (r_false ?_)
  refine q_next ?_
  refine k_block ?_
  refine k_loopF (fun sl L (k : Nat) => ⟨setAll (setBad sl [0, 1, 9, 14, 15, 16, 17, 18, 19, 20, 21, 22, 23, 24, 25, 26, 27, 28, 29, 30, 31, 32, 33, 34, 35, 36, 37, 38, 39, 40, 41, 42]) [(12, .t (txt (hk H (H a b) c k))), (13, .t (w8 (UInt8.ofNat (k + 1))))], Go.Ot.look (putL (.r 5 0 0) (boxO 46 [adr (.r 5 0 0) k, .msl (.n 9) 0 (hkAll H (H a b) c k).length 1]) (putL (.n 9) (rowO 5 w8 (hkAll H (H a b) c k)) L))⟩) (fun k => 32 * k < n + 32) (fun k => 256 - k) (0) (a_le ?_) ?_ ?_
  · refine le_of [(.r 4 2 0, .r 4 2 0), (.r 5 0 0, .r 5 0 0)] ?_ ?_ ?_ <;> simp [-List.map_set, -List.map_replicate, -List.reduceReplicate, -List.map_map, -List.map_drop, -List.map_take, num, bol, txt, w8, w16, w32, w64, lst, cls, rowO, boxO, List.take_of_length_le, hk, hkAll, adr] <;> (try (simp [IntKind.wrap, IntKind.bits, IntKind.signed] <;> omega))
  · (first | omega | simp)
  · intro k hk0
    rcases k with _ | k
    · refine a_st ?_
      refine k_seq ?_
      refine k_seq ?_
      refine k_region rfl ?_
      refine a_callp [.r 5 0 0, .n 9] [] [.n 9] false (len0_good Γ (hkAll H (H a b) c 0)) ?_
      refine a_op ?_
      refine a_op ?_
      refine s_nil (r_false ?_)
      refine q_next ?_
      refine a_if (fun hc1 => ?_) (fun hc1 => ?_)
      · (try simp only [Bool.and_eq_true, Bool.or_eq_true, Bool.or_eq_false_iff, Bool.not_eq_true', Bool.not_eq_false', dec_t, dec_f, Bool.and_eq_false_imp, beq_iff_eq, beq_eq_false_iff_ne, ne_eq] at hc1)
        refine k_skip ?_
        refine q_next ?_
        refine k_seq ?_
        refine k_block ?_
        refine k_seq ?_
        refine k_region rfl ?_
        iterate 5 refine a_op ?_
        first | refine a_text ?_ | refine a_texts ?_
        refine a_op ?_
        refine a_call [.r 10 6 0] false (hmac (H a b) [hk H (H a b) c 0, c, [UInt8.ofNat (0 + 1)]] (by rw [hH]; omega) (by simp) (by have := (hk_len hH (H a b) c 0).1; simp; omega)) ?_
        refine a_op ?_
        refine s_nil (r_false ?_)
        refine q_next ?_
        refine k_region rfl ?_
        refine a_op ?_
        refine a_callp [.r 5 0 0, .n 9] [] [.n 9] false (write0_good Γ (hkAll H (H a b) c 0) (H (H a b) [hk H (H a b) c 0, c, [UInt8.ofNat (0 + 1)]].flatten) (by rw [hkAll_len hH]; omega) (by rw [hH]; omega)) ?_
        refine s_nil (r_false ?_)
        refine q_block (q_next ?_)
        refine k_region rfl ?_
        iterate 3 refine a_op ?_
        refine s_nil (r_false ?_)
        refine q_loopF (0 + 1) (a_le ?_) ?_ ?_
        · refine le_of [(.r 4 2 0, .r 4 2 0), (.r 5 0 0, .r 5 0 0), (.n 9, .n 9)] ?_ ?_ ?_ <;> simp [-List.map_set, -List.map_replicate, -List.reduceReplicate, -List.map_map, -List.map_drop, -List.map_take, num, bol, txt, w8, w16, w32, w64, lst, cls, rowO, boxO, List.take_of_length_le, hk, hkAll, adr, List.append_assoc, hH] <;> (try (simp [IntKind.wrap, IntKind.bits, IntKind.signed] <;> omega))
        · (first | omega | (simp only [hkAll_len hH] at hc1; omega))
        · (first | omega | (simp only []; omega))
      · (try simp only [Bool.and_eq_true, Bool.or_eq_true, Bool.or_eq_false_iff, Bool.not_eq_true', Bool.not_eq_false', dec_t, dec_f, Bool.and_eq_false_imp, beq_iff_eq, beq_eq_false_iff_ne, ne_eq] at hc1)
        simp only [hkAll_len hH] at hc1; omega
    · refine a_st ?_
      refine k_seq ?_
      refine k_seq ?_
      refine k_region rfl ?_
      refine a_callp [.r 5 0 0, .n 9] [] [.n 9] false (len1_good Γ (hkAll H (H a b) c (k + 1))) ?_
      refine a_op ?_
      refine a_op ?_
      refine s_nil (r_false ?_)
      refine q_next ?_
      refine a_if (fun hc1 => ?_) (fun hc1 => ?_)
      · (try simp only [Bool.and_eq_true, Bool.or_eq_true, Bool.or_eq_false_iff, Bool.not_eq_true', Bool.not_eq_false', dec_t, dec_f, Bool.and_eq_false_imp, beq_iff_eq, beq_eq_false_iff_ne, ne_eq] at hc1)
        refine k_skip ?_
        refine q_next ?_
        refine k_seq ?_
        refine k_block ?_
        refine k_seq ?_
        refine k_region rfl ?_
        iterate 5 refine a_op ?_
        first | refine a_text ?_ | refine a_texts ?_
        refine a_op ?_
        refine a_call [.r 10 6 0] false (hmac (H a b) [hk H (H a b) c (k + 1), c, [UInt8.ofNat ((k + 1) + 1)]] (by rw [hH]; omega) (by simp) (by have := (hk_len hH (H a b) c (k + 1)).1; simp; omega)) ?_
        refine a_op ?_
        refine s_nil (r_false ?_)
        refine q_next ?_
        refine k_region rfl ?_
        refine a_op ?_
        refine a_callp [.r 5 0 0, .n 9] [] [.n 9] false (write1_good Γ (hkAll H (H a b) c (k + 1)) (H (H a b) [hk H (H a b) c (k + 1), c, [UInt8.ofNat ((k + 1) + 1)]].flatten) (by rw [hkAll_len hH]; omega) (by rw [hH]; omega)) ?_
        refine s_nil (r_false ?_)
        refine q_block (q_next ?_)
        refine k_region rfl ?_
        iterate 3 refine a_op ?_
        refine s_nil (r_false ?_)
        refine q_loopF ((k + 1) + 1) (a_le ?_) ?_ ?_
        · refine le_of [(.r 4 2 0, .r 4 2 0), (.r 5 0 0, .r 5 0 0), (.n 9, .n 9)] ?_ ?_ ?_ <;> simp [-List.map_set, -List.map_replicate, -List.reduceReplicate, -List.map_map, -List.map_drop, -List.map_take, num, bol, txt, w8, w16, w32, w64, lst, cls, rowO, boxO, List.take_of_length_le, hk, hkAll, adr, List.append_assoc, hH] <;> (try (simp [IntKind.wrap, IntKind.bits, IntKind.signed] <;> omega))
        · (first | omega | (simp only [hkAll_len hH] at hc1; omega))
        · (first | omega | (simp only []; omega))
      · (try simp only [Bool.and_eq_true, Bool.or_eq_true, Bool.or_eq_false_iff, Bool.not_eq_true', Bool.not_eq_false', dec_t, dec_f, Bool.and_eq_false_imp, beq_iff_eq, beq_eq_false_iff_ne, ne_eq] at hc1)
        have hz : k + 1 = (n + 31) / 32 := by simp only [hkAll_len hH] at hc1; omega
        refine k_exit ?_
        refine q_seq_exit (q_loopF_exit (q_block_exit (q_next ?_)))
        refine k_seq ?_
        refine k_region rfl ?_
        refine a_callp [.r 5 0 0, .n 9] [] [.r 5 0 0, .n 9] false (string_good Γ (hkAll H (H a b) c (k + 1)) (by intro e; have := hkAll_len hH (H a b) c (k + 1); rw [e] at this; simp at this) (by rw [hkAll_len hH]; omega)) ?_
        iterate 3 refine a_op ?_
        refine s_nil (r_false ?_)
        refine q_next ?_
        refine k_ret ?_
        refine ⟨.inr rfl, a_ret [] (by rw [results23]) ?_ ?_ ?_⟩ <;> simp [-List.map_set, -List.map_replicate, -List.reduceReplicate, -List.map_map, -List.map_drop, -List.map_take, num, bol, txt, w8, w16, w32, w64, lst, cls, rowO, boxO, List.take_of_length_le, derB, hz]

end Go.Proofs.Tryd
