import Derived.Test.YtcajgckomhhglaaSBS
set_option maxHeartbeats 4000000
set_option maxRecDepth 100000
set_option linter.unusedVariables false
set_option linter.unusedSimpArgs false
namespace Go.Proofs.Try
open Go Go.Ot
attribute [local irreducible] wpK wpS seqK blockK loopF regK meetK OpSpec Le sched wordTo rnds addTo rotr chunks takeB be64 outB sha padB xorTo keyB hmacB orTo keyOf chX hidB tagB eight sealB openB
theorem eqd_good (Γ : Gl) (a b : List UInt8) (q : Bool) (ha : a.length ≤ 1000000000) (hb : b.length ≤ 1000000000) (hq : decide (a = b) = q) : Go.Ot.Good Γ prog 23 [.t (txt a), .t (txt b)] [] (.t (bol q)) [] [] := by
  have h := equal_good Γ a b ha hb
  rwa [hq] at h
theorem open_sz (Γ : Gl) (key nonce ad s : List UInt8) (h : ¬ (key.length = 64 ∧ nonce.length = 12 ∧ (s.length : Int) - 16 ≤ 1048576)) (hs : s.length ≤ 1000000000) : Go.Ot.Good Γ prog 16 [.t (txt key), .t (txt nonce), .t (txt ad), .t (txt s)] [] (.tup [.t (txt []), .t (.ifc 50 (.agg [txt [111, 112, 101, 110], .ifc 45 (txt [115, 105, 122, 101])]))]) [] [] := by
  refine a_body F.mix func16 (by rfl) ntmps16 ?_
  refine k_seq ?_
  refine k_region rfl ?_
  refine a_op ?_
  refine a_op ?_
  refine s_nil (r_false ?_)
  refine q_next ?_
  refine k_seq ?_
  refine k_region rfl ?_
  iterate 4 refine a_op ?_
  refine s_nil (r_false ?_)
  refine q_next ?_
  refine k_seq ?_
  refine k_seq ?_
  refine k_region rfl ?_
  iterate 3 refine a_op ?_
  refine a_call [] false (sized_bad Γ key nonce ((s.length : Int) - 16) h) ?_
  refine a_op ?_
  refine s_nil (r_false ?_)
  refine q_next ?_
  refine k_seq ?_
  refine k_region rfl ?_
  refine a_op ?_
  refine a_isnil true ?_
  refine a_op ?_
  refine a_no ?_
  refine a_no ?_
  refine a_op ?_
  refine s_nil (r_false ?_)
  refine q_next ?_
  refine a_true ?_
  refine k_seq ?_
  refine k_region rfl ?_
  iterate 5 refine a_op ?_
  refine s_nil (r_false ?_)
  refine q_next ?_
  refine k_ret ?_
  refine q_seq_ret ?_
  refine ⟨.inr rfl, a_ret [] (by rw [results16]) ?_ ?_ ?_⟩ <;> simp [-List.map_set, -List.map_replicate, -List.reduceReplicate, -List.map_map, -List.map_drop, -List.map_take, num, bol, txt, w8, w16, w32, w64, lst, cls, rowO, boxO, List.take_of_length_le]

theorem open_sh (Γ : Gl) (key nonce ad s : List UInt8) (h1 : key.length = 64) (h2 : nonce.length = 12) (h3 : s.length < 16) : Go.Ot.Good Γ prog 16 [.t (txt key), .t (txt nonce), .t (txt ad), .t (txt s)] [] (.tup [.t (txt []), .t (.ifc 50 (.agg [txt [111, 112, 101, 110], .ifc 45 (txt [115, 105, 122, 101])]))]) [] [] := by
  refine a_body F.mix func16 (by rfl) ntmps16 ?_
  refine k_seq ?_
  refine k_region rfl ?_
  refine a_op ?_
  refine a_op ?_
  refine s_nil (r_false ?_)
  refine q_next ?_
  refine k_seq ?_
  refine k_region rfl ?_
  iterate 4 refine a_op ?_
  refine s_nil (r_false ?_)
  refine q_next ?_
  refine k_seq ?_
  refine k_seq ?_
  refine k_region rfl ?_
  iterate 3 refine a_op ?_
  refine a_call [] false (sized_ok Γ key nonce ((s.length : Int) - 16) h1 h2 (by omega)) ?_
  refine a_op ?_
  refine s_nil (r_false ?_)
  refine q_next ?_
  refine k_seq ?_
  refine k_region rfl ?_
  refine a_op ?_
  refine a_nilnil true ?_
  refine a_op ?_
  refine a_go ?_
  refine a_go ?_
  refine a_op ?_
  refine s_nil (r_false ?_)
  refine q_next ?_
  refine a_true ?_
  refine k_seq ?_
  refine k_region rfl ?_
  iterate 5 refine a_op ?_
  refine s_nil (r_false ?_)
  refine q_next ?_
  refine k_ret ?_
  refine q_seq_ret ?_
  refine ⟨.inr rfl, a_ret [] (by rw [results16]) ?_ ?_ ?_⟩ <;> simp [-List.map_set, -List.map_replicate, -List.reduceReplicate, -List.map_map, -List.map_drop, -List.map_take, num, bol, txt, w8, w16, w32, w64, lst, cls, rowO, boxO, List.take_of_length_le]

theorem open_tg (Γ : Gl) (key nonce ad s : List UInt8) (h1 : key.length = 64) (h2 : nonce.length = 12) (h3 : 16 ≤ s.length) (h4 : s.length ≤ 1048592) (ha : ad.length ≤ 1000000) (h : s.drop (s.length - 16) ≠ tagB key nonce ad (s.take (s.length - 16))) : Go.Ot.Good Γ prog 16 [.t (txt key), .t (txt nonce), .t (txt ad), .t (txt s)] [] (.tup [.t (txt []), .t (.ifc 50 (.agg [txt [111, 112, 101, 110], .ifc 45 (txt [116, 97, 103])]))]) [] [] := by
  obtain ⟨k, hkk⟩ : ∃ k : Nat, k = s.length - 16 := ⟨_, rfl⟩
  simp only [← hkk] at h ⊢
  refine a_body F.mix func16 (by rfl) ntmps16 ?_
  refine k_seq ?_
  refine k_region rfl ?_
  refine a_op ?_
  refine a_op ?_
  refine s_nil (r_false ?_)
  refine q_next ?_
  refine k_seq ?_
  refine k_region rfl ?_
  iterate 3 refine a_op ?_
  rw [show (s.length : Int) - 16 = (k : Int) from by omega]
  refine a_op ?_
  refine s_nil (r_false ?_)
  refine q_next ?_
  refine k_seq ?_
  refine k_seq ?_
  refine k_region rfl ?_
  iterate 3 refine a_op ?_
  refine a_call [] false (sized_ok Γ key nonce (k : Int) h1 h2 (by omega)) ?_
  refine a_op ?_
  refine s_nil (r_false ?_)
  refine q_next ?_
  refine k_seq ?_
  refine k_region rfl ?_
  refine a_op ?_
  refine a_nilnil true ?_
  refine a_op ?_
  refine a_go ?_
  refine a_go ?_
  refine a_op ?_
  refine s_nil (r_false ?_)
  refine q_next ?_
  refine a_false ?_
  refine k_skip ?_
  refine q_next ?_
  refine k_seq ?_
  refine k_region rfl ?_
  iterate 4 refine a_op ?_
  refine s_nil (r_false ?_)
  refine q_next ?_
  refine k_seq ?_
  refine k_seq ?_
  refine k_region rfl ?_
  iterate 7 refine a_opd ?_
  refine a_calld [] false (tag_good Γ key nonce ad (s.take k) (by omega) (by omega) (by omega) ha (by simp; omega)) ?_
  refine a_calld [] false (eqd_good Γ (s.drop k) (tagB key nonce ad (s.take k)) false (by simp; omega) (by rw [tagB_len]; omega) (decide_eq_false h)) ?_
  refine a_opd ?_
  refine s_nil (r_true (by kernel_rfl) ?_)
  refine q_next ?_
  refine a_true ?_
  refine k_seq ?_
  refine k_region rfl ?_
  iterate 5 refine a_op ?_
  refine s_nil (r_false ?_)
  refine q_next ?_
  refine k_ret ?_
  refine q_seq_ret ?_
  refine ⟨.inr rfl, a_ret [] (by rw [results16]) ?_ ?_ ?_⟩ <;> simp [-List.map_set, -List.map_replicate, -List.reduceReplicate, -List.map_map, -List.map_drop, -List.map_take, num, bol, txt, w8, w16, w32, w64, lst, cls, rowO, boxO, List.take_of_length_le]

theorem open_ok (Γ : Gl) (key nonce ad s : List UInt8) (h1 : key.length = 64) (h2 : nonce.length = 12) (h3 : 16 ≤ s.length) (h4 : s.length ≤ 1048592) (ha : ad.length ≤ 1000000) (h : s.drop (s.length - 16) = tagB key nonce ad (s.take (s.length - 16))) : Go.Ot.Good Γ prog 16 [.t (txt key), .t (txt nonce), .t (txt ad), .t (txt s)] [] (.tup [.t (txt (hidB key nonce (s.take (s.length - 16)))), .t (.v .nilIface)]) [] [] := by
  obtain ⟨k, hkk⟩ : ∃ k : Nat, k = s.length - 16 := ⟨_, rfl⟩
  simp only [← hkk] at h ⊢
  refine a_body F.mix func16 (by rfl) ntmps16 ?_
  refine k_seq ?_
  refine k_region rfl ?_
  refine a_op ?_
  refine a_op ?_
  refine s_nil (r_false ?_)
  refine q_next ?_
  refine k_seq ?_
  refine k_region rfl ?_
  iterate 3 refine a_op ?_
  rw [show (s.length : Int) - 16 = (k : Int) from by omega]
  refine a_op ?_
  refine s_nil (r_false ?_)
  refine q_next ?_
  refine k_seq ?_
  refine k_seq ?_
  refine k_region rfl ?_
  iterate 3 refine a_op ?_
  refine a_call [] false (sized_ok Γ key nonce (k : Int) h1 h2 (by omega)) ?_
  refine a_op ?_
  refine s_nil (r_false ?_)
  refine q_next ?_
  refine k_seq ?_
  refine k_region rfl ?_
  refine a_op ?_
  refine a_nilnil true ?_
  refine a_op ?_
  refine a_go ?_
  refine a_go ?_
  refine a_op ?_
  refine s_nil (r_false ?_)
  refine q_next ?_
  refine a_false ?_
  refine k_skip ?_
  refine q_next ?_
  refine k_seq ?_
  refine k_region rfl ?_
  iterate 4 refine a_op ?_
  refine s_nil (r_false ?_)
  refine q_next ?_
  refine k_seq ?_
  refine k_seq ?_
  refine k_region rfl ?_
  iterate 7 refine a_opd ?_
  refine a_calld [] false (tag_good Γ key nonce ad (s.take k) (by omega) (by omega) (by omega) ha (by simp; omega)) ?_
  refine a_calld [] false (eqd_good Γ (s.drop k) (tagB key nonce ad (s.take k)) true (by simp; omega) (by rw [tagB_len]; omega) (decide_eq_true h)) ?_
  refine a_opd ?_
  refine s_nil (r_true (by kernel_rfl) ?_)
  refine q_next ?_
  refine a_false ?_
  refine k_skip ?_
  refine q_next ?_
  refine k_seq ?_
  refine k_region rfl ?_
  iterate 3 refine a_op ?_
  refine a_call [] false (hide_good Γ key nonce (s.take k) h1 h2 (by simp; omega)) ?_
  refine a_op ?_
  refine a_op ?_
  refine s_nil (r_false ?_)
  refine q_next ?_
  refine k_ret ?_
  refine ⟨.inr rfl, a_ret [] (by rw [results16]) ?_ ?_ ?_⟩ <;> simp [-List.map_set, -List.map_replicate, -List.reduceReplicate, -List.map_map, -List.map_drop, -List.map_take, num, bol, txt, w8, w16, w32, w64, lst, cls, rowO, boxO, List.take_of_length_le]

theorem Open_sz (Γ : Gl) (key nonce ad s : List UInt8) (h : ¬ (key.length = 64 ∧ nonce.length = 12 ∧ (s.length : Int) - 16 ≤ 1048576)) (hs : s.length ≤ 1000000000) : Go.Ot.Good Γ prog 10 [.t (txt key), .t (txt nonce), .t (txt ad), .t (txt s)] [] (.tup [.t (txt []), .t (bol false)]) [] [] := by
  refine a_body F.mix func10 (by rfl) ntmps10 ?_
  refine k_seq ?_
  refine k_region rfl ?_
  refine a_op ?_
  refine a_op ?_
  refine s_nil (r_false ?_)
  refine q_next ?_
  refine k_seq ?_
  refine k_region rfl ?_
  iterate 4 refine a_op ?_
  refine a_call [] false (open_sz Γ key nonce ad s h hs) ?_
  iterate 5 refine a_op ?_
  refine s_nil (r_false ?_)
  refine q_next ?_
  refine k_seq ?_
  refine k_region rfl ?_
  iterate 3 refine a_op ?_
  refine a_call [] false (is_good Γ [111, 112, 101, 110] [115, 105, 122, 101] [115, 105, 122, 101] true (fun w => eq_ss w)) ?_
  refine a_op ?_
  refine a_op ?_
  refine a_no ?_
  refine a_no ?_
  refine a_no ?_
  refine a_no ?_
  iterate 3 refine a_op ?_
  refine s_nil (r_false ?_)
  refine q_next ?_
  refine k_ret ?_
  refine ⟨.inr rfl, a_ret [] (by rw [results10]) ?_ ?_ ?_⟩ <;> simp [-List.map_set, -List.map_replicate, -List.reduceReplicate, -List.map_map, -List.map_drop, -List.map_take, num, bol, txt, w8, w16, w32, w64, lst, cls, rowO, boxO, List.take_of_length_le]

theorem Open_sh (Γ : Gl) (key nonce ad s : List UInt8) (h1 : key.length = 64) (h2 : nonce.length = 12) (h3 : s.length < 16) : Go.Ot.Good Γ prog 10 [.t (txt key), .t (txt nonce), .t (txt ad), .t (txt s)] [] (.tup [.t (txt []), .t (bol false)]) [] [] := by
  refine a_body F.mix func10 (by rfl) ntmps10 ?_
  refine k_seq ?_
  refine k_region rfl ?_
  refine a_op ?_
  refine a_op ?_
  refine s_nil (r_false ?_)
  refine q_next ?_
  refine k_seq ?_
  refine k_region rfl ?_
  iterate 4 refine a_op ?_
  refine a_call [] false (open_sh Γ key nonce ad s h1 h2 h3) ?_
  iterate 5 refine a_op ?_
  refine s_nil (r_false ?_)
  refine q_next ?_
  refine k_seq ?_
  refine k_region rfl ?_
  iterate 3 refine a_op ?_
  refine a_call [] false (is_good Γ [111, 112, 101, 110] [115, 105, 122, 101] [115, 105, 122, 101] true (fun w => eq_ss w)) ?_
  refine a_op ?_
  refine a_op ?_
  refine a_no ?_
  refine a_no ?_
  refine a_no ?_
  refine a_no ?_
  iterate 3 refine a_op ?_
  refine s_nil (r_false ?_)
  refine q_next ?_
  refine k_ret ?_
  refine ⟨.inr rfl, a_ret [] (by rw [results10]) ?_ ?_ ?_⟩ <;> simp [-List.map_set, -List.map_replicate, -List.reduceReplicate, -List.map_map, -List.map_drop, -List.map_take, num, bol, txt, w8, w16, w32, w64, lst, cls, rowO, boxO, List.take_of_length_le]

theorem Open_tg (Γ : Gl) (key nonce ad s : List UInt8) (h1 : key.length = 64) (h2 : nonce.length = 12) (h3 : 16 ≤ s.length) (h4 : s.length ≤ 1048592) (ha : ad.length ≤ 1000000) (h : s.drop (s.length - 16) ≠ tagB key nonce ad (s.take (s.length - 16))) : Go.Ot.Good Γ prog 10 [.t (txt key), .t (txt nonce), .t (txt ad), .t (txt s)] [] (.tup [.t (txt []), .t (bol false)]) [] [] := by
  refine a_body F.mix func10 (by rfl) ntmps10 ?_
  refine k_seq ?_
  refine k_region rfl ?_
  refine a_op ?_
  refine a_op ?_
  refine s_nil (r_false ?_)
  refine q_next ?_
  refine k_seq ?_
  refine k_region rfl ?_
  iterate 4 refine a_op ?_
  refine a_call [] false (open_tg Γ key nonce ad s h1 h2 h3 h4 ha h) ?_
  iterate 5 refine a_op ?_
  refine s_nil (r_false ?_)
  refine q_next ?_
  refine k_seq ?_
  refine k_region rfl ?_
  iterate 3 refine a_op ?_
  refine a_call [] false (is_good Γ [111, 112, 101, 110] [116, 97, 103] [115, 105, 122, 101] false (fun w => eq_ts w)) ?_
  refine a_op ?_
  refine a_op ?_
  refine a_go ?_
  refine a_go ?_
  refine a_callgo [] false (is_good Γ [111, 112, 101, 110] [116, 97, 103] [116, 97, 103] true (fun w => eq_tt w)) ?_
  refine a_go ?_
  iterate 3 refine a_op ?_
  refine s_nil (r_false ?_)
  refine q_next ?_
  refine k_ret ?_
  refine ⟨.inr rfl, a_ret [] (by rw [results10]) ?_ ?_ ?_⟩ <;> simp [-List.map_set, -List.map_replicate, -List.reduceReplicate, -List.map_map, -List.map_drop, -List.map_take, num, bol, txt, w8, w16, w32, w64, lst, cls, rowO, boxO, List.take_of_length_le]

theorem Open_ok (Γ : Gl) (key nonce ad s : List UInt8) (h1 : key.length = 64) (h2 : nonce.length = 12) (h3 : 16 ≤ s.length) (h4 : s.length ≤ 1048592) (ha : ad.length ≤ 1000000) (h : s.drop (s.length - 16) = tagB key nonce ad (s.take (s.length - 16))) : Go.Ot.Good Γ prog 10 [.t (txt key), .t (txt nonce), .t (txt ad), .t (txt s)] [] (.tup [.t (txt (hidB key nonce (s.take (s.length - 16)))), .t (bol true)]) [] [] := by
  refine a_body F.mix func10 (by rfl) ntmps10 ?_
  refine k_seq ?_
  refine k_region rfl ?_
  refine a_op ?_
  refine a_op ?_
  refine s_nil (r_false ?_)
  refine q_next ?_
  refine k_seq ?_
  refine k_region rfl ?_
  iterate 4 refine a_op ?_
  refine a_call [] false (open_ok Γ key nonce ad s h1 h2 h3 h4 ha h) ?_
  iterate 5 refine a_op ?_
  refine s_nil (r_false ?_)
  refine q_next ?_
  refine k_seq ?_
  refine k_region rfl ?_
  iterate 3 refine a_op ?_
  refine a_call [] false (isnil_good Γ [115, 105, 122, 101]) ?_
  refine a_op ?_
  refine a_op ?_
  refine a_go ?_
  refine a_go ?_
  refine a_callgo [] false (isnil_good Γ [116, 97, 103]) ?_
  refine a_go ?_
  iterate 3 refine a_op ?_
  refine s_nil (r_false ?_)
  refine q_next ?_
  refine k_ret ?_
  refine ⟨.inr rfl, a_ret [] (by rw [results10]) ?_ ?_ ?_⟩ <;> simp [-List.map_set, -List.map_replicate, -List.reduceReplicate, -List.map_map, -List.map_drop, -List.map_take, num, bol, txt, w8, w16, w32, w64, lst, cls, rowO, boxO, List.take_of_length_le]

theorem Open_good (Γ : Gl) (key nonce ad s : List UInt8) (ha : ad.length ≤ 1000000) (hs : s.length ≤ 1000000000) : Go.Ot.Good Γ prog 10 [.t (txt key), .t (txt nonce), .t (txt ad), .t (txt s)] [] (.tup [.t (txt ((openB key nonce ad s).getD [])), .t (bol (openB key nonce ad s).isSome)]) [] [] := by
  by_cases h1 : key.length = 64
  · by_cases h2 : nonce.length = 12
    · rcases Nat.lt_or_ge s.length 16 with h3 | h3
      · rw [openB_none (by omega)]; exact Open_sh Γ key nonce ad s h1 h2 h3
      · rcases Nat.lt_or_ge 1048592 s.length with h4 | h4
        · rw [openB_none (by omega)]; exact Open_sz Γ key nonce ad s (by omega) hs
        · by_cases h : s.drop (s.length - 16) = tagB key nonce ad (s.take (s.length - 16))
          · rw [openB_some h1 h2 h3 h4 h.symm]; exact Open_ok Γ key nonce ad s h1 h2 h3 h4 ha h
          · rw [openB_no (fun e => h e.symm)]; exact Open_tg Γ key nonce ad s h1 h2 h3 h4 ha h
    · rw [openB_none (by omega)]; exact Open_sz Γ key nonce ad s (by omega) hs
  · rw [openB_none (by omega)]; exact Open_sz Γ key nonce ad s (by omega) hs
theorem ref_no (Γ : Gl) (key nonce ad s : List UInt8) (h : ¬ (key.length = 64 ∧ nonce.length = 12 ∧ 16 ≤ s.length ∧ s.length ≤ 1048592)) (hs : s.length ≤ 1000000000) : Go.Ot.Good Γ prog 11 [.t (txt key), .t (txt nonce), .t (txt ad), .t (txt s)] [] (.agg [.t (txt []), .t (bol false)]) [] [] := by
  refine a_body F.mix func11 (by rfl) ntmps11 ?_
  refine k_seq ?_
  refine k_region rfl ?_
  refine a_op ?_
  refine s_nil (r_false ?_)
  refine q_next ?_
  refine k_seq ?_
  refine k_region rfl ?_
  iterate 4 refine a_op ?_
  refine s_nil (r_false ?_)
  refine q_next ?_
  refine k_seq ?_
  refine k_seq ?_
  refine k_region rfl ?_
  have h' : key.length ≠ 64 ∨ (key.length = 64 ∧ nonce.length ≠ 12) ∨ (key.length = 64 ∧ nonce.length = 12 ∧ s.length < 16) ∨ (key.length = 64 ∧ nonce.length = 12 ∧ ¬ (s.length < 16) ∧ 1048592 < s.length) := by omega
  rcases h' with g1 | ⟨g1, g2⟩ | ⟨g1, g2, g3⟩ | ⟨g1, g2, g3, g4⟩
  · skip
    iterate 4 refine a_opd ?_
    refine a_nod ?_
    refine a_nod ?_
    refine a_nod ?_
    refine a_opd ?_
    refine a_opd ?_
    refine a_nod ?_
    refine a_nod ?_
    refine a_opd ?_
    refine a_opd ?_
    refine a_nod ?_
    refine a_nod ?_
    refine a_opd ?_
    refine a_opd ?_
    refine a_nod ?_
    refine a_nod ?_
    refine a_nod ?_
    refine a_nod ?_
    refine a_nod ?_
    refine a_nod ?_
    refine a_nod ?_
    refine a_nod ?_
    refine a_nod ?_
    refine a_nod ?_
    refine a_nod ?_
    refine a_opd ?_
    refine s_nil (r_true (by kernel_rfl) ?_)
    refine q_next ?_
    refine a_true ?_
    refine k_seq ?_
    refine k_region rfl ?_
    refine a_op ?_
    refine a_op ?_
    refine s_nil (r_false ?_)
    refine q_next ?_
    refine k_ret ?_
    refine q_seq_ret ?_
    refine ⟨.inr rfl, a_ret [] (by rw [results11]) ?_ ?_ ?_⟩ <;> simp [-List.map_set, -List.map_replicate, -List.reduceReplicate, -List.map_map, -List.map_drop, -List.map_take, num, bol, txt, w8, w16, w32, w64, lst, cls, rowO, boxO, List.take_of_length_le]
  · skip
    iterate 4 refine a_opd ?_
    refine a_god ?_
    refine a_god ?_
    refine a_god ?_
    refine a_opd ?_
    refine a_opd ?_
    refine a_nod ?_
    refine a_nod ?_
    refine a_opd ?_
    refine a_opd ?_
    refine a_nod ?_
    refine a_nod ?_
    refine a_opd ?_
    refine a_opd ?_
    refine a_nod ?_
    refine a_nod ?_
    refine a_nod ?_
    refine a_nod ?_
    refine a_nod ?_
    refine a_nod ?_
    refine a_nod ?_
    refine a_nod ?_
    refine a_nod ?_
    refine a_nod ?_
    refine a_nod ?_
    refine a_opd ?_
    refine s_nil (r_true (by kernel_rfl) ?_)
    refine q_next ?_
    refine a_true ?_
    refine k_seq ?_
    refine k_region rfl ?_
    refine a_op ?_
    refine a_op ?_
    refine s_nil (r_false ?_)
    refine q_next ?_
    refine k_ret ?_
    refine q_seq_ret ?_
    refine ⟨.inr rfl, a_ret [] (by rw [results11]) ?_ ?_ ?_⟩ <;> simp [-List.map_set, -List.map_replicate, -List.reduceReplicate, -List.map_map, -List.map_drop, -List.map_take, num, bol, txt, w8, w16, w32, w64, lst, cls, rowO, boxO, List.take_of_length_le]
  · skip
    iterate 4 refine a_opd ?_
    refine a_god ?_
    refine a_god ?_
    refine a_god ?_
    refine a_opd ?_
    refine a_opd ?_
    refine a_god ?_
    refine a_god ?_
    refine a_opd ?_
    refine a_opd ?_
    refine a_nod ?_
    refine a_nod ?_
    refine a_opd ?_
    refine a_opd ?_
    refine a_nod ?_
    refine a_nod ?_
    refine a_nod ?_
    refine a_nod ?_
    refine a_nod ?_
    refine a_nod ?_
    refine a_nod ?_
    refine a_nod ?_
    refine a_nod ?_
    refine a_nod ?_
    refine a_nod ?_
    refine a_opd ?_
    refine s_nil (r_true (by kernel_rfl) ?_)
    refine q_next ?_
    refine a_true ?_
    refine k_seq ?_
    refine k_region rfl ?_
    refine a_op ?_
    refine a_op ?_
    refine s_nil (r_false ?_)
    refine q_next ?_
    refine k_ret ?_
    refine q_seq_ret ?_
    refine ⟨.inr rfl, a_ret [] (by rw [results11]) ?_ ?_ ?_⟩ <;> simp [-List.map_set, -List.map_replicate, -List.reduceReplicate, -List.map_map, -List.map_drop, -List.map_take, num, bol, txt, w8, w16, w32, w64, lst, cls, rowO, boxO, List.take_of_length_le]
  · skip
    iterate 4 refine a_opd ?_
    refine a_god ?_
    refine a_god ?_
    refine a_god ?_
    refine a_opd ?_
    refine a_opd ?_
    refine a_god ?_
    refine a_god ?_
    refine a_opd ?_
    refine a_opd ?_
    refine a_god ?_
    refine a_god ?_
    refine a_opd ?_
    refine a_opd ?_
    refine a_nod ?_
    refine a_nod ?_
    refine a_nod ?_
    refine a_nod ?_
    refine a_nod ?_
    refine a_nod ?_
    refine a_nod ?_
    refine a_nod ?_
    refine a_nod ?_
    refine a_nod ?_
    refine a_nod ?_
    refine a_opd ?_
    refine s_nil (r_true (by kernel_rfl) ?_)
    refine q_next ?_
    refine a_true ?_
    refine k_seq ?_
    refine k_region rfl ?_
    refine a_op ?_
    refine a_op ?_
    refine s_nil (r_false ?_)
    refine q_next ?_
    refine k_ret ?_
    refine q_seq_ret ?_
    refine ⟨.inr rfl, a_ret [] (by rw [results11]) ?_ ?_ ?_⟩ <;> simp [-List.map_set, -List.map_replicate, -List.reduceReplicate, -List.map_map, -List.map_drop, -List.map_take, num, bol, txt, w8, w16, w32, w64, lst, cls, rowO, boxO, List.take_of_length_le]

theorem ref_tg (Γ : Gl) (key nonce ad s : List UInt8) (h1 : key.length = 64) (h2 : nonce.length = 12) (h3 : 16 ≤ s.length) (h4 : s.length ≤ 1048592) (ha : ad.length ≤ 1000000) (h : tagB key nonce ad (s.take (s.length - 16)) ≠ s.drop (s.length - 16)) : Go.Ot.Good Γ prog 11 [.t (txt key), .t (txt nonce), .t (txt ad), .t (txt s)] [] (.agg [.t (txt []), .t (bol false)]) [] [] := by
  obtain ⟨k, hkk⟩ : ∃ k : Nat, k = s.length - 16 := ⟨_, rfl⟩
  simp only [← hkk] at h ⊢
  have hb : (tagB key nonce ad (s.take k) == s.drop k) = false := by simpa using h
  refine a_body F.mix func11 (by rfl) ntmps11 ?_
  refine k_seq ?_
  refine k_region rfl ?_
  refine a_op ?_
  refine s_nil (r_false ?_)
  refine q_next ?_
  refine k_seq ?_
  refine k_region rfl ?_
  iterate 3 refine a_op ?_
  rw [show (s.length : Int) - 16 = (k : Int) from by omega]
  refine a_op ?_
  refine s_nil (r_false ?_)
  refine q_next ?_
  refine k_seq ?_
  refine k_seq ?_
  refine k_region rfl ?_
  iterate 4 refine a_opd ?_
  refine a_god ?_
  refine a_god ?_
  refine a_god ?_
  refine a_opd ?_
  refine a_opd ?_
  refine a_god ?_
  refine a_god ?_
  refine a_opd ?_
  refine a_opd ?_
  refine a_god ?_
  refine a_god ?_
  refine a_opd ?_
  refine a_opd ?_
  refine a_god ?_
  refine a_god ?_
  refine a_god ?_
  refine a_god ?_
  refine a_god ?_
  refine a_god ?_
  refine a_callgod [] false (reftag_good Γ key nonce ad (s.take k) (by omega) (by omega) (by omega) ha (by simp; omega)) ?_
  refine a_god ?_
  refine a_god ?_
  refine a_god ?_
  refine a_god (hs := by (simp only [push_cast, hb] <;> rfl)) ?_
  refine a_opd ?_
  refine s_nil (r_true (by kernel_rfl) ?_)
  refine q_next ?_
  refine a_true ?_
  refine k_seq ?_
  refine k_region rfl ?_
  refine a_op ?_
  refine a_op ?_
  refine s_nil (r_false ?_)
  refine q_next ?_
  refine k_ret ?_
  refine q_seq_ret ?_
  refine ⟨.inr rfl, a_ret [] (by rw [results11]) ?_ ?_ ?_⟩ <;> simp [-List.map_set, -List.map_replicate, -List.reduceReplicate, -List.map_map, -List.map_drop, -List.map_take, num, bol, txt, w8, w16, w32, w64, lst, cls, rowO, boxO, List.take_of_length_le]

theorem ref_ok (Γ : Gl) (key nonce ad s : List UInt8) (h1 : key.length = 64) (h2 : nonce.length = 12) (h3 : 16 ≤ s.length) (h4 : s.length ≤ 1048592) (ha : ad.length ≤ 1000000) (h : tagB key nonce ad (s.take (s.length - 16)) = s.drop (s.length - 16)) : Go.Ot.Good Γ prog 11 [.t (txt key), .t (txt nonce), .t (txt ad), .t (txt s)] [] (.agg [.t (txt (hidB key nonce (s.take (s.length - 16)))), .t (bol true)]) [] [] := by
  obtain ⟨k, hkk⟩ : ∃ k : Nat, k = s.length - 16 := ⟨_, rfl⟩
  simp only [← hkk] at h ⊢
  have hb : (tagB key nonce ad (s.take k) == s.drop k) = true := by simp [h]
  refine a_body F.mix func11 (by rfl) ntmps11 ?_
  refine k_seq ?_
  refine k_region rfl ?_
  refine a_op ?_
  refine s_nil (r_false ?_)
  refine q_next ?_
  refine k_seq ?_
  refine k_region rfl ?_
  iterate 3 refine a_op ?_
  rw [show (s.length : Int) - 16 = (k : Int) from by omega]
  refine a_op ?_
  refine s_nil (r_false ?_)
  refine q_next ?_
  refine k_seq ?_
  refine k_seq ?_
  refine k_region rfl ?_
  iterate 4 refine a_opd ?_
  refine a_god ?_
  refine a_god ?_
  refine a_god ?_
  refine a_opd ?_
  refine a_opd ?_
  refine a_god ?_
  refine a_god ?_
  refine a_opd ?_
  refine a_opd ?_
  refine a_god ?_
  refine a_god ?_
  refine a_opd ?_
  refine a_opd ?_
  refine a_god ?_
  refine a_god ?_
  refine a_god ?_
  refine a_god ?_
  refine a_god ?_
  refine a_god ?_
  refine a_callgod [] false (reftag_good Γ key nonce ad (s.take k) (by omega) (by omega) (by omega) ha (by simp; omega)) ?_
  refine a_god ?_
  refine a_god ?_
  refine a_god ?_
  refine a_god (hs := by (simp only [push_cast, hb] <;> rfl)) ?_
  refine a_opd ?_
  refine s_nil (r_true (by kernel_rfl) ?_)
  refine q_next ?_
  refine a_false ?_
  refine k_skip ?_
  refine q_next ?_
  refine k_seq ?_
  refine k_region rfl ?_
  iterate 6 refine a_opd ?_
  refine a_calld [] false (refhide_good Γ key nonce (s.take k) h1 h2 (by simp; omega)) ?_
  refine a_opd ?_
  refine a_opd ?_
  refine s_nil (r_true (by kernel_rfl) ?_)
  refine q_next ?_
  refine k_ret ?_
  refine ⟨.inr rfl, a_ret [] (by rw [results11]) ?_ ?_ ?_⟩ <;> simp [-List.map_set, -List.map_replicate, -List.reduceReplicate, -List.map_map, -List.map_drop, -List.map_take, num, bol, txt, w8, w16, w32, w64, lst, cls, rowO, boxO, List.take_of_length_le]

theorem refOpen_good (Γ : Gl) (key nonce ad s : List UInt8) (ha : ad.length ≤ 1000000) (hs : s.length ≤ 1000000000) : Go.Ot.Good Γ prog 11 [.t (txt key), .t (txt nonce), .t (txt ad), .t (txt s)] [] (.agg [.t (txt ((openB key nonce ad s).getD [])), .t (bol (openB key nonce ad s).isSome)]) [] [] := by
  by_cases h0 : key.length = 64 ∧ nonce.length = 12 ∧ 16 ≤ s.length ∧ s.length ≤ 1048592
  · obtain ⟨h1, h2, h3, h4⟩ := h0
    by_cases h : tagB key nonce ad (s.take (s.length - 16)) = s.drop (s.length - 16)
    · rw [openB_some h1 h2 h3 h4 h]; exact ref_ok Γ key nonce ad s h1 h2 h3 h4 ha h
    · rw [openB_no h]; exact ref_tg Γ key nonce ad s h1 h2 h3 h4 ha h
  · rw [openB_none h0]; exact ref_no Γ key nonce ad s h0 hs
end Go.Proofs.Try
