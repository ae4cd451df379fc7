import Derived.Test.YtihkemlgdfjmjaaDoorSU
set_option maxHeartbeats 4000000
set_option maxRecDepth 100000
set_option linter.unusedVariables false
set_option linter.unusedSimpArgs false
namespace Go.Proofs.Tryd
open Go Go.Ot
attribute [local irreducible] wpK wpS seqK blockK loopF regK meetK OpSpec Le sched wordTo rnds addTo rotr chunks takeB be64 outB sha padB xorTo keyB hmacB orTo keyOf hk hkAll derB adr
theorem ofInt8 (k : Nat) : UInt8.ofInt ((k : Int) + 1) = UInt8.ofNat (k + 1) := by
  refine UInt8.toNat_inj.1 ?_
  simp only [UInt8.ofInt, UInt8.toNat_ofNat']
  omega
theorem lenz_good (Γ : Gl)  : Go.Ot.Good Γ prog 30 [.ptr (.p 0) 0] [boxO 46 [.t (.v (.pointer none)), .t (.v (.slice none 0 0))]] (.t (num 0)) [some (boxO 46 [.t (.v (.pointer none)), .t (.v (.slice none 0 0))])] [] := by
  refine a_body F.mix func30 (by rfl) ntmps30 ?_
  refine k_seq ?_
  refine k_region rfl ?_
  refine a_op ?_
  refine s_nil (r_false ?_)
  refine q_next ?_
  refine k_seq ?_
  refine k_region rfl ?_
  iterate 6 refine a_op ?_
  refine s_nil (r_false ?_)
  refine q_next ?_
  refine k_ret ?_
  refine ⟨.inr rfl, a_ret [(.p 0, .p 0)] (by rw [results30]) ?_ ?_ ?_⟩ <;> simp [-List.map_set, -List.map_replicate, -List.reduceReplicate, -List.map_map, -List.map_drop, -List.map_take, num, bol, txt, w8, w16, w32, w64, lst, cls, rowO, boxO, List.take_of_length_le]

theorem derive_zero (Γ : Gl) (a b c : List UInt8) (ha : a.length ≤ 1000000) (hb : b.length ≤ 1000000) (hc : c.length ≤ 1000000) (H : List UInt8 → List UInt8 → List UInt8) (hH : ∀ k s, (H k s).length = 32) (hmac : ∀ (key : List UInt8) (l : List (List UInt8)), key.length ≤ 100000000 → l.length ≤ 100000000 → l.flatten.length ≤ 100000000 → Go.Ot.Good Γ prog 29 [.t (txt key), .t (lst txt l)] [] (.t (txt (H key l.flatten))) [] []) : Go.Ot.Good Γ prog 23 [.t (txt a), .t (txt b), .t (txt c), .t (num 0)] [] (.t (txt [])) [] [] := by
  refine a_body F.mix func23 (by rfl) ntmps23 ?_
  refine k_seq ?_
  refine k_region rfl ?_
  refine a_op ?_
  refine s_nil (r_false ?_)
  refine q_next ?_
  refine k_seq ?_
  refine k_seq ?_
  refine k_region rfl ?_
  refine a_op ?_
  refine a_call [] false (sized_ok Γ 0 (by omega) (by omega)) ?_
  refine a_op ?_
  refine s_nil (r_false ?_)
  refine q_next ?_
  refine k_seq ?_
  refine k_region rfl ?_
  refine a_op ?_
  refine a_op ?_
  refine a_call [] false (isnil_good Γ [98, 101, 108, 111, 119, 32, 110, 111, 117, 103, 104, 116]) ?_
  refine a_op ?_
  refine a_go ?_
  refine a_go ?_
  refine a_callgo [] false (isnil_good Γ [116, 111, 111, 32, 109, 97, 110, 121]) ?_
  refine a_op ?_
  refine s_nil (r_false ?_)
  refine q_next ?_
  refine a_false ?_
  refine k_skip ?_
  refine q_next ?_
  refine k_seq ?_
  refine k_region rfl ?_
  iterate 3 refine a_op ?_
  refine a_call [.r 4 2 0] false (hmac a [b] (by omega) (by simp) (by simp; omega)) ?_
  refine a_op ?_
  refine s_nil (r_false ?_)
  refine q_next ?_
  refine k_seq ?_
  refine k_region rfl ?_
  refine a_op ?_
  refine s_nil (r_false ?_)
  refine q_next ?_
  refine k_seq ?_
  refine k_region rfl ?_
  refine a_op ?_
  refine s_nil (r_false ?_)
  refine q_next ?_
  refine k_seq ?_
  refine k_seq ?_
  refine k_region rfl ?_
  refine a_op ?_
  refine s_nil (r_false ?_)
  refine q_next ?_
  refine k_block ?_
  refine k_loopF (fun sl L (u : Unit) => ⟨setAll (setBad sl [0, 1, 9, 14, 15, 16, 17, 18, 19, 20, 21, 22, 23, 24, 25, 26, 27, 28, 29, 30, 31, 32, 33, 34, 35, 36, 37, 38, 39, 40, 41, 42]) [(12, .t (txt [])), (13, .t (.v (.int .u8 1)))], Go.Ot.look (putL (.r 5 0 0) (boxO 46 [.t (.v (.pointer none)), .t (.v (.slice none 0 0))]) L)⟩) (fun _ => True) (fun _ => 0) (()) (a_le ?_) ?_ ?_
  · refine le_of [(.r 4 2 0, .r 4 2 0), (.r 5 0 0, .r 5 0 0)] ?_ ?_ ?_ <;> simp [-List.map_set, -List.map_replicate, -List.reduceReplicate, -List.map_map, -List.map_drop, -List.map_take, num, bol, txt, w8, w16, w32, w64, lst, cls, rowO, boxO, List.take_of_length_le]
  · trivial
  · intro u _
    refine a_st ?_
    refine k_seq ?_
    refine k_seq ?_
    refine k_region rfl ?_
    refine a_callp [.r 5 0 0] [] [] false (lenz_good Γ) ?_
    refine a_op ?_
    refine a_op ?_
    refine s_nil (r_false ?_)
    refine q_next ?_
    refine a_false ?_
    refine k_exit ?_
    refine q_seq_exit (q_loopF_exit (q_block_exit (q_next ?_)))
    refine k_seq ?_
    refine k_region rfl ?_
    refine a_callp [.r 5 0 0] [] [.r 5 0 0] false (string0_good Γ) ?_
    iterate 3 refine a_op ?_
    refine s_nil (r_false ?_)
    refine q_next ?_
    refine k_ret ?_
    refine ⟨.inr rfl, a_ret [] (by rw [results23]) ?_ ?_ ?_⟩ <;> simp [-List.map_set, -List.map_replicate, -List.reduceReplicate, -List.map_map, -List.map_drop, -List.map_take, num, bol, txt, w8, w16, w32, w64, lst, cls, rowO, boxO, List.take_of_length_le]

theorem ref_lo (Γ : Gl) (a b c : List UInt8) (n : Int) (h0 : n < 0) : Go.Ot.Good Γ prog 18 [.t (txt a), .t (txt b), .t (txt c), .t (num n)] [] (.t (txt [])) [] [] := by
  refine a_body F.mix func18 (by rfl) ntmps18 ?_
  refine k_seq ?_
  refine k_region rfl ?_
  refine a_op ?_
  refine s_nil (r_false ?_)
  refine q_next ?_
  refine k_seq ?_
  refine k_seq ?_
  refine k_region rfl ?_
  iterate 3 refine a_op ?_
  refine a_may ?_
  refine a_may ?_
  refine a_op ?_
  refine s_nil (r_false ?_)
  refine q_next ?_
  refine a_if (fun hc0 => ?_) (fun hc0 => ?_)
  · (try simp only [Bool.and_eq_true, Bool.or_eq_true, Bool.or_eq_false_iff, Bool.not_eq_true', Bool.not_eq_false', dec_t, dec_f, Bool.and_eq_false_imp, beq_iff_eq, beq_eq_false_iff_ne, ne_eq] at hc0)
    refine k_seq ?_
    refine k_region rfl ?_
    refine a_op ?_
    refine s_nil (r_false ?_)
    refine q_next ?_
    refine k_ret ?_
    refine q_seq_ret ?_
    refine ⟨.inr rfl, a_ret [] (by rw [results18]) ?_ ?_ ?_⟩ <;> simp [-List.map_set, -List.map_replicate, -List.reduceReplicate, -List.map_map, -List.map_drop, -List.map_take, num, bol, txt, w8, w16, w32, w64, lst, cls, rowO, boxO, List.take_of_length_le]
  · (try simp only [Bool.and_eq_true, Bool.or_eq_true, Bool.or_eq_false_iff, Bool.not_eq_true', Bool.not_eq_false', dec_t, dec_f, Bool.and_eq_false_imp, beq_iff_eq, beq_eq_false_iff_ne, ne_eq] at hc0)
    (try simp at hc0); omega

theorem ref_hi (Γ : Gl) (a b c : List UInt8) (n : Int) (h0 : 8160 < n) : Go.Ot.Good Γ prog 18 [.t (txt a), .t (txt b), .t (txt c), .t (num n)] [] (.t (txt [])) [] [] := by
  refine a_body F.mix func18 (by rfl) ntmps18 ?_
  refine k_seq ?_
  refine k_region rfl ?_
  refine a_op ?_
  refine s_nil (r_false ?_)
  refine q_next ?_
  refine k_seq ?_
  refine k_seq ?_
  refine k_region rfl ?_
  iterate 3 refine a_op ?_
  refine a_may ?_
  refine a_may ?_
  refine a_op ?_
  refine s_nil (r_false ?_)
  refine q_next ?_
  refine a_if (fun hc0 => ?_) (fun hc0 => ?_)
  · (try simp only [Bool.and_eq_true, Bool.or_eq_true, Bool.or_eq_false_iff, Bool.not_eq_true', Bool.not_eq_false', dec_t, dec_f, Bool.and_eq_false_imp, beq_iff_eq, beq_eq_false_iff_ne, ne_eq] at hc0)
    refine k_seq ?_
    refine k_region rfl ?_
    refine a_op ?_
    refine s_nil (r_false ?_)
    refine q_next ?_
    refine k_ret ?_
    refine q_seq_ret ?_
    refine ⟨.inr rfl, a_ret [] (by rw [results18]) ?_ ?_ ?_⟩ <;> simp [-List.map_set, -List.map_replicate, -List.reduceReplicate, -List.map_map, -List.map_drop, -List.map_take, num, bol, txt, w8, w16, w32, w64, lst, cls, rowO, boxO, List.take_of_length_le]
  · (try simp only [Bool.and_eq_true, Bool.or_eq_true, Bool.or_eq_false_iff, Bool.not_eq_true', Bool.not_eq_false', dec_t, dec_f, Bool.and_eq_false_imp, beq_iff_eq, beq_eq_false_iff_ne, ne_eq] at hc0)
    (try simp at hc0); omega

theorem ref_ok (Γ : Gl) (a b c : List UInt8) (n : Nat) (h1 : n ≤ 8160) (ha : a.length ≤ 1000000) (hb : b.length ≤ 1000000) (hc : c.length ≤ 1000000) (H : List UInt8 → List UInt8 → List UInt8) (hH : ∀ k s, (H k s).length = 32) (hmac : ∀ (key s : List UInt8), key.length ≤ 100000000 → s.length ≤ 100000000 → Go.Ot.Good Γ prog 21 [.t (txt key), .t (txt s)] [] (.t (txt (H key s))) [] []) : Go.Ot.Good Γ prog 18 [.t (txt a), .t (txt b), .t (txt c), .t (num n)] [] (.t (txt (derB H a b c n))) [] [] := by
  refine a_body F.mix func18 (by rfl) ntmps18 ?_
  refine k_seq ?_
  refine k_region rfl ?_
  refine a_op ?_
  refine s_nil (r_false ?_)
  refine q_next ?_
  refine k_seq ?_
  refine k_seq ?_
  refine k_region rfl ?_
  iterate 3 refine a_op ?_
  refine a_may ?_
  refine a_may ?_
  refine a_op ?_
  refine s_nil (r_false ?_)
  refine q_next ?_
  refine a_if (fun hc0 => ?_) (fun hc0 => ?_)
  · (try simp only [Bool.and_eq_true, Bool.or_eq_true, Bool.or_eq_false_iff, Bool.not_eq_true', Bool.not_eq_false', dec_t, dec_f, Bool.and_eq_false_imp, beq_iff_eq, beq_eq_false_iff_ne, ne_eq] at hc0)
    (try simp at hc0); omega
  · (try simp only [Bool.and_eq_true, Bool.or_eq_true, Bool.or_eq_false_iff, Bool.not_eq_true', Bool.not_eq_false', dec_t, dec_f, Bool.and_eq_false_imp, beq_iff_eq, beq_eq_false_iff_ne, ne_eq] at hc0)
    refine k_skip ?_
    refine q_next ?_
    refine k_seq ?_
    refine k_region rfl ?_
    refine a_op ?_
    refine a_op ?_
    refine a_call [] false (hmac a b (by omega) (by omega)) ?_
    refine a_op ?_
    refine s_nil (r_false ?_)
    refine q_next ?_
    refine k_seq ?_
    refine k_region rfl ?_
    refine a_op ?_
    refine a_op ?_
    refine s_nil (r_false ?_)
    refine q_next ?_
    refine k_seq ?_
    refine k_seq ?_
    refine k_region rfl ?_
    refine a_op ?_
    refine s_nil (r_false ?_)
    refine q_next ?_
    refine k_block ?_
    refine k_loopF (fun sl L (k : Nat) => ⟨setAll (setBad sl [0, 1, 13, 14, 15, 16, 17, 18, 19, 20, 21, 22, 23, 24, 25, 26, 27, 28, 29, 30, 31, 32, 33, 34, 35, 36, 37, 38, 39, 40]) [(10, .t (txt (hkAll H (H a b) c k))), (11, .t (txt (hk H (H a b) c k))), (12, .t (num (k + 1)))], Go.Ot.look (L)⟩) (fun k => 32 * k < n + 32) (fun k => 256 - k) (0) (a_le ?_) ?_ ?_
    · refine le_same ?_ ?_ ?_ <;> simp [-List.map_set, -List.map_replicate, -List.reduceReplicate, -List.map_map, -List.map_drop, -List.map_take, num, bol, txt, w8, w16, w32, w64, lst, cls, rowO, boxO, List.take_of_length_le, hk, hkAll]
    · (first | omega | simp)
    · intro k hk0
      refine a_st ?_
      refine k_seq ?_
      refine k_seq ?_
      refine k_region rfl ?_
      iterate 4 refine a_op ?_
      refine s_nil (r_false ?_)
      refine q_next ?_
      refine a_if (fun hc1 => ?_) (fun hc1 => ?_)
      · (try simp only [Bool.and_eq_true, Bool.or_eq_true, Bool.or_eq_false_iff, Bool.not_eq_true', Bool.not_eq_false', dec_t, dec_f, Bool.and_eq_false_imp, beq_iff_eq, beq_eq_false_iff_ne, ne_eq] at hc1)
        refine k_skip ?_
        refine q_next ?_
        refine k_seq ?_
        refine k_block ?_
        refine k_seq ?_
        refine k_region rfl ?_
        have hx := (hk_len hH (H a b) c k).1
        iterate 5 refine a_op ?_
        refine a_cv8 ?_
        (try rw [ofInt8 k])
        refine a_op ?_
        first | refine a_text ?_ | refine a_texts ?_
        refine a_op ?_
        refine a_call [] false (hmac (H a b) (hk H (H a b) c k ++ c ++ [UInt8.ofNat (k + 1)]) (by rw [hH]; omega) (by have := (hk_len hH (H a b) c k).1; simp; omega)) ?_
        refine a_op ?_
        refine s_nil (r_false ?_)
        refine q_next ?_
        refine k_region rfl ?_
        have hy := hkAll_len hH (H a b) c k
        have hy2 := hH (H a b) (hk H (H a b) c k ++ c ++ [UInt8.ofNat (k + 1)])
        iterate 4 refine a_op ?_
        refine s_nil (r_false ?_)
        refine q_block (q_next ?_)
        refine k_region rfl ?_
        iterate 3 refine a_op ?_
        refine s_nil (r_false ?_)
        refine q_loopF (k + 1) (a_le ?_) ?_ ?_
        · refine le_same ?_ ?_ ?_ <;> simp [-List.map_set, -List.map_replicate, -List.reduceReplicate, -List.map_map, -List.map_drop, -List.map_take, num, bol, txt, w8, w16, w32, w64, lst, cls, rowO, boxO, List.take_of_length_le, hk, hkAll, hH]
        · (first | omega | (simp only [hkAll_len hH] at hc1; omega))
        · (first | omega | (simp only []; omega))
      · (try simp only [Bool.and_eq_true, Bool.or_eq_true, Bool.or_eq_false_iff, Bool.not_eq_true', Bool.not_eq_false', dec_t, dec_f, Bool.and_eq_false_imp, beq_iff_eq, beq_eq_false_iff_ne, ne_eq] at hc1)
        have hz : k = (n + 31) / 32 := by simp only [hkAll_len hH] at hc1; omega
        refine k_exit ?_
        refine q_seq_exit (q_loopF_exit (q_block_exit (q_next ?_)))
        refine k_seq ?_
        refine k_region rfl ?_
        iterate 4 refine a_op ?_
        refine s_nil (r_false ?_)
        refine q_next ?_
        refine k_ret ?_
        refine ⟨.inr rfl, a_ret [] (by rw [results18]) ?_ ?_ ?_⟩ <;> simp [-List.map_set, -List.map_replicate, -List.reduceReplicate, -List.map_map, -List.map_drop, -List.map_take, num, bol, txt, w8, w16, w32, w64, lst, cls, rowO, boxO, List.take_of_length_le, derB, hz]

end Go.Proofs.Tryd
