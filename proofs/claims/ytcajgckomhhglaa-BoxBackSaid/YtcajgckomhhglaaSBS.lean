import Derived.Test.YtcajgckomhhglaaSBF
set_option maxHeartbeats 4000000
set_option maxRecDepth 100000
set_option linter.unusedVariables false
set_option linter.unusedSimpArgs false
namespace Go.Proofs.Try
open Go Go.Ot
attribute [local irreducible] wpK wpS seqK blockK loopF regK meetK OpSpec Le sched wordTo rnds addTo rotr chunks takeB be64 outB sha padB xorTo keyB hmacB orTo keyOf chX hidB tagB eight
theorem sized_ok (Γ : Gl) (key nonce : List UInt8) (n : Int) (h1 : key.length = 64) (h2 : nonce.length = 12) (h3 : n ≤ 1048576) : Go.Ot.Good Γ prog 19 [.t (txt key), .t (txt nonce), .t (num n)] [] (.t (.v .nilIface)) [] [] := by
  refine a_body F.mix func19 (by rfl) ntmps19 ?_
  refine k_seq ?_
  refine k_region rfl ?_
  refine a_op ?_
  refine s_nil (r_false ?_)
  refine q_next ?_
  refine k_seq ?_
  refine k_seq ?_
  refine k_region rfl ?_
  iterate 4 refine a_op ?_
  refine a_go ?_
  refine a_go ?_
  refine a_go ?_
  refine a_op ?_
  refine a_op ?_
  refine a_go ?_
  refine a_go ?_
  refine a_op ?_
  refine s_nil (r_false ?_)
  refine q_next ?_
  refine a_false ?_
  refine k_skip ?_
  refine q_next ?_
  refine k_seq ?_
  refine k_region rfl ?_
  refine a_op ?_
  refine s_nil (r_false ?_)
  refine q_next ?_
  refine k_ret ?_
  refine ⟨.inr rfl, a_ret [] (by rw [results19]) ?_ ?_ ?_⟩ <;> simp [-List.map_set, -List.map_replicate, -List.reduceReplicate, -List.map_map, -List.map_drop, -List.map_take, num, bol, txt, w8, w16, w32, w64, lst, cls, rowO, boxO, List.take_of_length_le]

theorem sized_bad (Γ : Gl) (key nonce : List UInt8) (n : Int) (h : ¬ (key.length = 64 ∧ nonce.length = 12 ∧ n ≤ 1048576)) : Go.Ot.Good Γ prog 19 [.t (txt key), .t (txt nonce), .t (num n)] [] (.t (.ifc 50 (.agg [txt [115, 105, 122, 101, 115], .ifc 45 (txt [115, 105, 122, 101])]))) [] [] := by
  refine a_body F.mix func19 (by rfl) ntmps19 ?_
  refine k_seq ?_
  refine k_region rfl ?_
  refine a_op ?_
  refine s_nil (r_false ?_)
  refine q_next ?_
  refine k_seq ?_
  refine k_seq ?_
  refine k_region rfl ?_
  have h' : key.length ≠ 64 ∨ (key.length = 64 ∧ nonce.length ≠ 12) ∨ (key.length = 64 ∧ nonce.length = 12 ∧ 1048576 < n) := by omega
  rcases h' with g1 | ⟨g1, g2⟩ | ⟨g1, g2, g3⟩
  · skip
    iterate 4 refine a_op ?_
    refine a_no ?_
    refine a_no ?_
    refine a_no ?_
    refine a_op ?_
    refine a_op ?_
    refine a_no ?_
    refine a_no ?_
    refine a_op ?_
    refine s_nil (r_false ?_)
    refine q_next ?_
    refine a_true ?_
    refine k_seq ?_
    refine k_region rfl ?_
    iterate 4 refine a_op ?_
    refine s_nil (r_false ?_)
    refine q_next ?_
    refine k_ret ?_
    refine q_seq_ret ?_
    refine ⟨.inr rfl, a_ret [] (by rw [results19]) ?_ ?_ ?_⟩ <;> simp [-List.map_set, -List.map_replicate, -List.reduceReplicate, -List.map_map, -List.map_drop, -List.map_take, num, bol, txt, w8, w16, w32, w64, lst, cls, rowO, boxO, List.take_of_length_le]
  · skip
    iterate 4 refine a_op ?_
    refine a_go ?_
    refine a_go ?_
    refine a_go ?_
    refine a_op ?_
    refine a_op ?_
    refine a_no ?_
    refine a_no ?_
    refine a_op ?_
    refine s_nil (r_false ?_)
    refine q_next ?_
    refine a_true ?_
    refine k_seq ?_
    refine k_region rfl ?_
    iterate 4 refine a_op ?_
    refine s_nil (r_false ?_)
    refine q_next ?_
    refine k_ret ?_
    refine q_seq_ret ?_
    refine ⟨.inr rfl, a_ret [] (by rw [results19]) ?_ ?_ ?_⟩ <;> simp [-List.map_set, -List.map_replicate, -List.reduceReplicate, -List.map_map, -List.map_drop, -List.map_take, num, bol, txt, w8, w16, w32, w64, lst, cls, rowO, boxO, List.take_of_length_le]
  · skip
    iterate 4 refine a_op ?_
    refine a_go ?_
    refine a_go ?_
    refine a_go ?_
    refine a_op ?_
    refine a_op ?_
    refine a_go ?_
    refine a_go ?_
    refine a_op ?_
    refine s_nil (r_false ?_)
    refine q_next ?_
    refine a_true ?_
    refine k_seq ?_
    refine k_region rfl ?_
    iterate 4 refine a_op ?_
    refine s_nil (r_false ?_)
    refine q_next ?_
    refine k_ret ?_
    refine q_seq_ret ?_
    refine ⟨.inr rfl, a_ret [] (by rw [results19]) ?_ ?_ ?_⟩ <;> simp [-List.map_set, -List.map_replicate, -List.reduceReplicate, -List.map_map, -List.map_drop, -List.map_take, num, bol, txt, w8, w16, w32, w64, lst, cls, rowO, boxO, List.take_of_length_le]

theorem seal_ok (Γ : Gl) (key nonce ad s : List UInt8) (h1 : key.length = 64) (h2 : nonce.length = 12) (h3 : s.length ≤ 1048576) (ha : ad.length ≤ 1000000) : Go.Ot.Good Γ prog 12 [.t (txt key), .t (txt nonce), .t (txt ad), .t (txt s)] [] (.t (txt (sealB key nonce ad s))) [] [] := by
  refine a_body F.mix func12 (by rfl) ntmps12 ?_
  refine k_seq ?_
  refine k_region rfl ?_
  refine a_op ?_
  refine s_nil (r_false ?_)
  refine q_next ?_
  refine k_seq ?_
  refine k_seq ?_
  refine k_region rfl ?_
  iterate 4 refine a_op ?_
  refine a_call [] false (sized_ok Γ key nonce s.length h1 h2 (by omega)) ?_
  refine a_op ?_
  refine s_nil (r_false ?_)
  refine q_next ?_
  refine k_seq ?_
  refine k_region rfl ?_
  refine a_op ?_
  refine a_op ?_
  refine a_call [] false (isnil_good Γ [115, 105, 122, 101]) ?_
  refine s_nil (r_false ?_)
  refine q_next ?_
  refine a_false ?_
  refine k_skip ?_
  refine q_next ?_
  refine k_seq ?_
  refine k_region rfl ?_
  iterate 3 refine a_op ?_
  refine a_call [] false (hide_good Γ key nonce s h1 h2 h3) ?_
  refine a_op ?_
  refine s_nil (r_false ?_)
  refine q_next ?_
  refine k_seq ?_
  refine k_region rfl ?_
  iterate 5 refine a_op ?_
  refine a_call [] false (tag_good Γ key nonce ad (hidB key nonce s) (by omega) (by omega) (by omega) ha (by rw [hidB_len]; omega)) ?_
  refine a_op ?_
  refine a_op ?_
  refine s_nil (r_false ?_)
  refine q_next ?_
  refine k_ret ?_
  refine ⟨.inr rfl, a_ret [] (by rw [results12]) ?_ ?_ ?_⟩ <;> simp [-List.map_set, -List.map_replicate, -List.reduceReplicate, -List.map_map, -List.map_drop, -List.map_take, num, bol, txt, w8, w16, w32, w64, lst, cls, rowO, boxO, List.take_of_length_le, sealB, h1, h2, h3]

theorem seal_bad (Γ : Gl) (key nonce ad s : List UInt8) (h : ¬ (key.length = 64 ∧ nonce.length = 12 ∧ s.length ≤ 1048576)) : Go.Ot.Good Γ prog 12 [.t (txt key), .t (txt nonce), .t (txt ad), .t (txt s)] [] (.t (txt (sealB key nonce ad s))) [] [] := by
  refine a_body F.mix func12 (by rfl) ntmps12 ?_
  refine k_seq ?_
  refine k_region rfl ?_
  refine a_op ?_
  refine s_nil (r_false ?_)
  refine q_next ?_
  refine k_seq ?_
  refine k_seq ?_
  refine k_region rfl ?_
  iterate 4 refine a_op ?_
  refine a_call [] false (sized_bad Γ key nonce s.length (by omega)) ?_
  refine a_op ?_
  refine s_nil (r_false ?_)
  refine q_next ?_
  refine k_seq ?_
  refine k_region rfl ?_
  refine a_op ?_
  refine a_op ?_
  refine a_call [] false (is_good Γ [115, 105, 122, 101, 115] [115, 105, 122, 101] [115, 105, 122, 101] true (fun w => eq_ss w)) ?_
  refine s_nil (r_false ?_)
  refine q_next ?_
  refine a_true ?_
  refine k_seq ?_
  refine k_region rfl ?_
  refine a_op ?_
  refine s_nil (r_false ?_)
  refine q_next ?_
  refine k_ret ?_
  refine q_seq_ret ?_
  refine ⟨.inr rfl, a_ret [] (by rw [results12]) ?_ ?_ ?_⟩ <;> simp [-List.map_set, -List.map_replicate, -List.reduceReplicate, -List.map_map, -List.map_drop, -List.map_take, num, bol, txt, w8, w16, w32, w64, lst, cls, rowO, boxO, List.take_of_length_le, sealB, h]

theorem seal_good (Γ : Gl) (key nonce ad s : List UInt8) (ha : ad.length ≤ 1000000) : Go.Ot.Good Γ prog 12 [.t (txt key), .t (txt nonce), .t (txt ad), .t (txt s)] [] (.t (txt (sealB key nonce ad s))) [] [] := by
  by_cases h : key.length = 64 ∧ nonce.length = 12 ∧ s.length ≤ 1048576
  · exact seal_ok Γ key nonce ad s h.1 h.2.1 h.2.2 ha
  · exact seal_bad Γ key nonce ad s h
theorem refxor0_good (Γ : Gl) (key nonce : List UInt8) (c : Int) : Go.Ot.Good Γ prog 15 [.t (txt key), .t (txt nonce), .t (num c), .t (txt [])] [] (.t (txt [])) [] [] := by
  refine a_body F.mix func15 (by rfl) ntmps15 ?_
  refine k_seq ?_
  refine k_region rfl ?_
  refine a_op ?_
  refine s_nil (r_false ?_)
  refine q_next ?_
  refine k_seq ?_
  refine k_seq ?_
  refine k_region rfl ?_
  iterate 4 refine a_op ?_
  refine a_no ?_
  refine a_no ?_
  refine a_no ?_
  refine a_no ?_
  refine a_no ?_
  refine a_op ?_
  refine a_op ?_
  refine a_no ?_
  refine a_no ?_
  refine a_no ?_
  refine a_no ?_
  refine a_no ?_
  refine a_no ?_
  refine a_no ?_
  refine a_op ?_
  refine s_nil (r_false ?_)
  refine q_next ?_
  refine a_true ?_
  refine k_seq ?_
  refine k_region rfl ?_
  refine a_op ?_
  refine s_nil (r_false ?_)
  refine q_next ?_
  refine k_ret ?_
  refine q_seq_ret ?_
  refine ⟨.inr rfl, a_ret [] (by rw [results15]) ?_ ?_ ?_⟩ <;> simp [-List.map_set, -List.map_replicate, -List.reduceReplicate, -List.map_map, -List.map_drop, -List.map_take, num, bol, txt, w8, w16, w32, w64, lst, cls, rowO, boxO, List.take_of_length_le]

theorem refhide_good (Γ : Gl) (key nonce s : List UInt8) (hk : key.length = 64) (hn : nonce.length = 12) (hs : s.length ≤ 1048576) : Go.Ot.Good Γ prog 15 [.t (txt (key.take 32)), .t (txt nonce), .t (num 1), .t (txt s)] [] (.t (txt (hidB key nonce s))) [] [] := by
  rcases s with _ | ⟨x, s⟩
  · rw [hidB_nil]; exact refxor0_good Γ (key.take 32) nonce 1
  · rw [hidB_def]; exact refxor_good Γ (key.take 32) nonce 1 (x :: s) (by simp; omega) hn (by simp) (by omega) (by simp at hs ⊢; omega)
theorem refseal_ok (Γ : Gl) (key nonce ad s : List UInt8) (h1 : key.length = 64) (h2 : nonce.length = 12) (h3 : s.length ≤ 1048576) (ha : ad.length ≤ 1000000) : Go.Ot.Good Γ prog 13 [.t (txt key), .t (txt nonce), .t (txt ad), .t (txt s)] [] (.t (txt (sealB key nonce ad s))) [] [] := by
  refine a_body F.mix func13 (by rfl) ntmps13 ?_
  refine k_seq ?_
  refine k_region rfl ?_
  refine a_op ?_
  refine s_nil (r_false ?_)
  refine q_next ?_
  refine k_seq ?_
  refine k_seq ?_
  refine k_region rfl ?_
  iterate 4 refine a_op ?_
  refine a_go ?_
  refine a_go ?_
  refine a_go ?_
  refine a_op ?_
  refine a_op ?_
  refine a_go ?_
  refine a_go ?_
  refine a_go ?_
  refine a_op ?_
  refine s_nil (r_false ?_)
  refine q_next ?_
  refine a_false ?_
  refine k_skip ?_
  refine q_next ?_
  refine k_seq ?_
  refine k_region rfl ?_
  iterate 4 refine a_op ?_
  refine a_call [] false (refhide_good Γ key nonce s h1 h2 h3) ?_
  refine a_op ?_
  refine s_nil (r_false ?_)
  refine q_next ?_
  refine k_seq ?_
  refine k_region rfl ?_
  iterate 5 refine a_op ?_
  refine a_call [] false (reftag_good Γ key nonce ad (hidB key nonce s) (by omega) (by omega) (by omega) ha (by rw [hidB_len]; omega)) ?_
  refine a_op ?_
  refine a_op ?_
  refine s_nil (r_false ?_)
  refine q_next ?_
  refine k_ret ?_
  refine ⟨.inr rfl, a_ret [] (by rw [results13]) ?_ ?_ ?_⟩ <;> simp [-List.map_set, -List.map_replicate, -List.reduceReplicate, -List.map_map, -List.map_drop, -List.map_take, num, bol, txt, w8, w16, w32, w64, lst, cls, rowO, boxO, List.take_of_length_le, sealB, h1, h2, h3]

theorem refseal_bad (Γ : Gl) (key nonce ad s : List UInt8) (h : ¬ (key.length = 64 ∧ nonce.length = 12 ∧ s.length ≤ 1048576)) : Go.Ot.Good Γ prog 13 [.t (txt key), .t (txt nonce), .t (txt ad), .t (txt s)] [] (.t (txt (sealB key nonce ad s))) [] [] := by
  refine a_body F.mix func13 (by rfl) ntmps13 ?_
  refine k_seq ?_
  refine k_region rfl ?_
  refine a_op ?_
  refine s_nil (r_false ?_)
  refine q_next ?_
  refine k_seq ?_
  refine k_seq ?_
  refine k_region rfl ?_
  have h' : key.length ≠ 64 ∨ (key.length = 64 ∧ nonce.length ≠ 12) ∨ (key.length = 64 ∧ nonce.length = 12 ∧ 1048576 < s.length) := by omega
  rcases h' with g1 | ⟨g1, g2⟩ | ⟨g1, g2, g3⟩
  · skip
    iterate 4 refine a_op ?_
    refine a_no ?_
    refine a_no ?_
    refine a_no ?_
    refine a_op ?_
    refine a_op ?_
    refine a_no ?_
    refine a_no ?_
    refine a_no ?_
    refine a_op ?_
    refine s_nil (r_false ?_)
    refine q_next ?_
    refine a_true ?_
    refine k_seq ?_
    refine k_region rfl ?_
    refine a_op ?_
    refine s_nil (r_false ?_)
    refine q_next ?_
    refine k_ret ?_
    refine q_seq_ret ?_
    refine ⟨.inr rfl, a_ret [] (by rw [results13]) ?_ ?_ ?_⟩ <;> simp [-List.map_set, -List.map_replicate, -List.reduceReplicate, -List.map_map, -List.map_drop, -List.map_take, num, bol, txt, w8, w16, w32, w64, lst, cls, rowO, boxO, List.take_of_length_le, sealB, h]
  · skip
    iterate 4 refine a_op ?_
    refine a_go ?_
    refine a_go ?_
    refine a_go ?_
    refine a_op ?_
    refine a_op ?_
    refine a_no ?_
    refine a_no ?_
    refine a_no ?_
    refine a_op ?_
    refine s_nil (r_false ?_)
    refine q_next ?_
    refine a_true ?_
    refine k_seq ?_
    refine k_region rfl ?_
    refine a_op ?_
    refine s_nil (r_false ?_)
    refine q_next ?_
    refine k_ret ?_
    refine q_seq_ret ?_
    refine ⟨.inr rfl, a_ret [] (by rw [results13]) ?_ ?_ ?_⟩ <;> simp [-List.map_set, -List.map_replicate, -List.reduceReplicate, -List.map_map, -List.map_drop, -List.map_take, num, bol, txt, w8, w16, w32, w64, lst, cls, rowO, boxO, List.take_of_length_le, sealB, h]
  · skip
    iterate 4 refine a_op ?_
    refine a_go ?_
    refine a_go ?_
    refine a_go ?_
    refine a_op ?_
    refine a_op ?_
    refine a_go ?_
    refine a_go ?_
    refine a_go ?_
    refine a_op ?_
    refine s_nil (r_false ?_)
    refine q_next ?_
    refine a_true ?_
    refine k_seq ?_
    refine k_region rfl ?_
    refine a_op ?_
    refine s_nil (r_false ?_)
    refine q_next ?_
    refine k_ret ?_
    refine q_seq_ret ?_
    refine ⟨.inr rfl, a_ret [] (by rw [results13]) ?_ ?_ ?_⟩ <;> simp [-List.map_set, -List.map_replicate, -List.reduceReplicate, -List.map_map, -List.map_drop, -List.map_take, num, bol, txt, w8, w16, w32, w64, lst, cls, rowO, boxO, List.take_of_length_le, sealB, h]

theorem refseal_good (Γ : Gl) (key nonce ad s : List UInt8) (ha : ad.length ≤ 1000000) : Go.Ot.Good Γ prog 13 [.t (txt key), .t (txt nonce), .t (txt ad), .t (txt s)] [] (.t (txt (sealB key nonce ad s))) [] [] := by
  by_cases h : key.length = 64 ∧ nonce.length = 12 ∧ s.length ≤ 1048576
  · exact refseal_ok Γ key nonce ad s h.1 h.2.1 h.2.2 ha
  · exact refseal_bad Γ key nonce ad s h
end Go.Proofs.Try
