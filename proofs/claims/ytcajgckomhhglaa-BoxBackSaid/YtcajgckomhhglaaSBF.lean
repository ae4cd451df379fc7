import Derived.Test.YtcajgckomhhglaaSBP
import Derived.Test.YtcajgckomhhglaaSBE
import Derived.Test.YtcajgckomhhglaaSCX
import Derived.Test.YtcajgckomhhglaaSCY
set_option maxHeartbeats 4000000
set_option maxRecDepth 100000
set_option linter.unusedVariables false
set_option linter.unusedSimpArgs false
namespace Go.Proofs.Try
open Go Go.Ot
attribute [local irreducible] wpK wpS seqK blockK loopF regK meetK OpSpec Le sched wordTo rnds addTo rotr chunks takeB be64 outB sha padB xorTo keyB hmacB orTo keyOf chX hidB tagB eight
theorem size_good (Γ : Gl) (n : Nat) (hn : n ≤ 1000000) : Go.Ot.Good Γ prog 30 [.t (num n)] [] (.t (txt (eight n))) [] [] := by
  refine a_body F.mix func30 (by rfl) ntmps30 ?_
  refine k_seq ?_
  refine k_region rfl ?_
  refine a_op ?_
  refine s_nil (r_false ?_)
  refine q_next ?_
  refine k_seq ?_
  refine k_region rfl ?_
  refine a_op ?_
  refine s_nil (r_false ?_)
  refine q_next ?_
  refine k_seq ?_
  refine k_seq ?_
  refine k_region rfl ?_
  refine a_op ?_
  refine s_nil (r_false ?_)
  refine q_next ?_
  refine k_block ?_
  refine k_loopF (fun sl L (j : Nat) => ⟨setAll (setBad sl [5, 6, 7, 8, 9, 10, 11, 12, 13, 14, 15, 16]) [(3, .msl (.n 3) 0 j 1), (4, .t (num (7 - (j : Int))))], Go.Ot.look (putL (.n 3) (rowO 5 w8 (be64 (UInt64.ofInt n) j)) L)⟩) (fun j => j ≤ 8) (fun j => 8 - j) (0) (a_le ?_) ?_ ?_
  · refine le_of [] ?_ ?_ ?_ <;> simp [-List.map_set, -List.map_replicate, -List.reduceReplicate, -List.map_map, -List.map_drop, -List.map_take, num, bol, txt, w8, w16, w32, w64, lst, cls, rowO, boxO, List.take_of_length_le, be64] <;> (try omega)
  · (first | omega | simp)
  · intro j hj
    refine a_st ?_
    refine k_seq ?_
    refine k_seq ?_
    refine k_region rfl ?_
    refine a_op ?_
    refine a_op ?_
    refine s_nil (r_false ?_)
    refine q_next ?_
    refine a_if (fun hc0 => ?_) (fun hc0 => ?_)
    · (try simp only [Bool.and_eq_true, Bool.or_eq_true, Bool.or_eq_false_iff, Bool.not_eq_true', Bool.not_eq_false', dec_t, dec_f, Bool.and_eq_false_imp, beq_iff_eq, beq_eq_false_iff_ne, ne_eq] at hc0)
      refine k_skip ?_
      refine q_next ?_
      refine k_seq ?_
      refine k_block ?_
      refine k_region rfl ?_
      iterate 5 refine a_op ?_
      refine a_cv8 ?_
      rw [show min ((8 : Int) * (7 - (j : Int))).toNat 64 = ((8 : Int) * (7 - (j : Int))).toNat from by omega, ← byte_sh n (by omega) _ (by omega)]
      iterate 3 refine a_op ?_
      refine s_nil (r_false ?_)
      refine q_block (q_next ?_)
      refine k_region rfl ?_
      iterate 3 refine a_op ?_
      refine s_nil (r_false ?_)
      refine q_loopF (j + 1) (a_le ?_) ?_ ?_
      · refine le_same ?_ ?_ ?_ <;> simp [-List.map_set, -List.map_replicate, -List.reduceReplicate, -List.map_map, -List.map_drop, -List.map_take, num, bol, txt, w8, w16, w32, w64, lst, cls, rowO, boxO, List.take_of_length_le, be64] <;> (try omega)
      · (first | omega | (simp_all <;> omega))
      · (first | omega | (simp only []; omega))
    · (try simp only [Bool.and_eq_true, Bool.or_eq_true, Bool.or_eq_false_iff, Bool.not_eq_true', Bool.not_eq_false', dec_t, dec_f, Bool.and_eq_false_imp, beq_iff_eq, beq_eq_false_iff_ne, ne_eq] at hc0)
      refine k_exit ?_
      refine q_seq_exit (q_loopF_exit (q_block_exit (q_next ?_)))
      refine k_seq ?_
      refine k_region rfl ?_
      obtain rfl : j = 8 := by omega
      refine a_op ?_
      first | refine a_text ?_ | refine a_texts ?_
      refine a_op ?_
      refine s_nil (r_false ?_)
      refine q_next ?_
      refine k_ret ?_
      refine ⟨.inr rfl, a_ret [] (by rw [results30]) ?_ ?_ ?_⟩ <;> simp [-List.map_set, -List.map_replicate, -List.reduceReplicate, -List.map_map, -List.map_drop, -List.map_take, num, bol, txt, w8, w16, w32, w64, lst, cls, rowO, boxO, List.take_of_length_le, eight]

theorem xor0_good (Γ : Gl) (key nonce : List UInt8) (c : Int) : Go.Ot.Good Γ prog 28 [.t (txt key), .t (txt nonce), .t (num c), .t (lst w8 [])] [] (.t (lst w8 [])) [] [] := by
  refine a_body F.mix func28 (by rfl) ntmps28 ?_
  refine k_seq ?_
  refine k_region rfl ?_
  refine a_op ?_
  refine s_nil (r_false ?_)
  refine q_next ?_
  refine k_seq ?_
  refine k_region rfl ?_
  iterate 6 refine a_op ?_
  refine s_nil (r_false ?_)
  refine q_next ?_
  refine k_seq ?_
  refine k_seq ?_
  refine k_region rfl ?_
  iterate 3 refine a_op ?_
  refine a_no ?_
  refine a_no ?_
  refine a_no ?_
  refine a_no ?_
  refine a_no ?_
  refine a_op ?_
  refine a_op ?_
  refine a_no ?_
  refine a_no ?_
  refine a_no ?_
  refine a_no ?_
  refine a_op ?_
  refine s_nil (r_false ?_)
  refine q_next ?_
  refine a_true ?_
  refine k_seq ?_
  refine k_region rfl ?_
  refine a_op ?_
  refine s_nil (r_false ?_)
  refine q_next ?_
  refine k_ret ?_
  refine q_seq_ret ?_
  refine ⟨.inr rfl, a_ret [] (by rw [results28]) ?_ ?_ ?_⟩ <;> simp [-List.map_set, -List.map_replicate, -List.reduceReplicate, -List.map_map, -List.map_drop, -List.map_take, num, bol, txt, w8, w16, w32, w64, lst, cls, rowO, boxO, List.take_of_length_le]

theorem hide_good (Γ : Gl) (key nonce s : List UInt8) (hk : key.length = 64) (hn : nonce.length = 12) (hs : s.length ≤ 1048576) : Go.Ot.Good Γ prog 20 [.t (txt key), .t (txt nonce), .t (txt s)] [] (.t (txt (hidB key nonce s))) [] [] := by
  refine a_body F.mix func20 (by rfl) ntmps20 ?_
  refine k_seq ?_
  refine k_region rfl ?_
  refine a_op ?_
  refine s_nil (r_false ?_)
  refine q_next ?_
  refine k_seq ?_
  refine k_region rfl ?_
  rcases s with _ | ⟨x, s⟩
  · try (have hs' : s.length + 1 ≤ 1048576 := hs)
    iterate 5 refine a_op ?_
    refine a_call [.r 1 4 0] true (xor0_good Γ (key.take 32) nonce 1) ?_
    refine a_texts (l := []) ?_
    refine a_op ?_
    refine s_nil (r_false ?_)
    refine q_next ?_
    refine k_ret ?_
    refine ⟨.inr rfl, a_ret [] (by rw [results20]) ?_ ?_ ?_⟩ <;> simp [-List.map_set, -List.map_replicate, -List.reduceReplicate, -List.map_map, -List.map_drop, -List.map_take, num, bol, txt, w8, w16, w32, w64, lst, cls, rowO, boxO, List.take_of_length_le, hidB_nil]
  · try (have hs' : s.length + 1 ≤ 1048576 := hs)
    iterate 5 refine a_op ?_
    refine a_call [.r 1 4 0] true (xor_good Γ (key.take 32) nonce 1 (x :: s) (by simp; omega) hn (by simp) (by omega) (by simp; omega)) ?_
    refine a_texts (l := chX (key.take 32) nonce 1 (x :: s)) ?_
    refine a_op ?_
    refine s_nil (r_false ?_)
    refine q_next ?_
    refine k_ret ?_
    refine ⟨.inr rfl, a_ret [] (by rw [results20]) ?_ ?_ ?_⟩ <;> simp [-List.map_set, -List.map_replicate, -List.reduceReplicate, -List.map_map, -List.map_drop, -List.map_take, num, bol, txt, w8, w16, w32, w64, lst, cls, rowO, boxO, List.take_of_length_le, hidB]

theorem tag_good (Γ : Gl) (key nonce ad c : List UInt8) (hk : key.length ≤ 1000) (hk2 : 32 ≤ key.length) (hn : nonce.length ≤ 1000) (ha : ad.length ≤ 1000000) (hc : c.length ≤ 2000000) : Go.Ot.Good Γ prog 21 [.t (txt key), .t (txt nonce), .t (txt ad), .t (txt c)] [] (.t (txt (tagB key nonce ad c))) [] [] := by
  refine a_body F.mix func21 (by rfl) ntmps21 ?_
  refine k_seq ?_
  refine k_region rfl ?_
  refine a_op ?_
  refine s_nil (r_false ?_)
  refine q_next ?_
  refine k_seq ?_
  refine k_region rfl ?_
  iterate 4 refine a_opd ?_
  refine a_calld [] false (size_good Γ ad.length (by omega)) ?_
  iterate 4 refine a_opd ?_
  refine a_calld [.r 1 8 0] false (mac_good Γ (key.drop 32) [eight ad.length, ad, nonce, c] (by simp; omega) (by simp) (by simp [eight_len]; omega)) ?_
  refine a_opd ?_
  refine a_opd ?_
  refine s_nil (r_true (by kernel_rfl) ?_)
  refine q_next ?_
  refine k_ret ?_
  refine ⟨.inr rfl, a_ret [] (by rw [results21]) ?_ ?_ ?_⟩ <;> simp [-List.map_set, -List.map_replicate, -List.reduceReplicate, -List.map_map, -List.map_drop, -List.map_take, num, bol, txt, w8, w16, w32, w64, lst, cls, rowO, boxO, List.take_of_length_le, tagB]

theorem reftag_good (Γ : Gl) (key nonce ad c : List UInt8) (hk : key.length ≤ 1000) (hk2 : 32 ≤ key.length) (hn : nonce.length ≤ 1000) (ha : ad.length ≤ 1000000) (hc : c.length ≤ 2000000) : Go.Ot.Good Γ prog 18 [.t (txt key), .t (txt nonce), .t (txt ad), .t (txt c)] [] (.t (txt (tagB key nonce ad c))) [] [] := by
  refine a_body F.mix func18 (by rfl) ntmps18 ?_
  refine k_seq ?_
  refine k_region rfl ?_
  refine a_op ?_
  refine s_nil (r_false ?_)
  refine q_next ?_
  refine k_seq ?_
  refine k_region rfl ?_
  iterate 4 refine a_opd ?_
  refine a_calld [] false (eight_good Γ ad.length) ?_
  iterate 6 refine a_opd ?_
  refine a_calld [] false (refmac_good Γ (key.drop 32) (eight ad.length ++ ad ++ nonce ++ c) (by simp; omega) (by simp [eight_len]; omega)) ?_
  refine a_opd ?_
  refine a_opd ?_
  refine s_nil (r_true (by kernel_rfl) ?_)
  refine q_next ?_
  refine k_ret ?_
  refine ⟨.inr rfl, a_ret [] (by rw [results18]) ?_ ?_ ?_⟩ <;> simp [-List.map_set, -List.map_replicate, -List.reduceReplicate, -List.map_map, -List.map_drop, -List.map_take, num, bol, txt, w8, w16, w32, w64, lst, cls, rowO, boxO, List.take_of_length_le, tagB]

end Go.Proofs.Try
