import Derived.Test.YtihkemlgdfjmjaaDoorSK1
import Derived.Test.YtihkemlgdfjmjaaDoorSK2
import Derived.Test.YtihkemlgdfjmjaaDoorSWK
set_option maxHeartbeats 4000000
set_option maxRecDepth 100000
set_option linter.unusedVariables false
set_option linter.unusedSimpArgs false
namespace Go.Proofs.Tryd
open Go Go.Ot

theorem decd_len (k : Nat) : ∀ u, u < 10 ^ (k + 1) → (Lib.decDigits u).length ≤ k + 1 := by
  induction k with
  | zero => intro u hu; rw [Lib.decDigits, dif_pos (by omega)]; simp
  | succ k ih =>
    intro u hu
    by_cases h : u < 10
    · rw [Lib.decDigits, dif_pos h]; simp
    · rw [Lib.decDigits, dif_neg h]
      have := ih (u / 10) (by rw [Nat.pow_succ] at hu; omega)
      simp only [List.length_append, List.length_cons, List.length_nil]
      omega
theorem itoa_len (n : Int) (h0 : -9223372036854775808 ≤ n) (h1 : n ≤ 9223372036854775807) : (Lib.itoa n).length ≤ 20 := by
  unfold Lib.itoa
  split
  · have := decd_len 18 n.natAbs (by have : (10 : Nat) ^ (18 + 1) = 10000000000000000000 := by decide
                                     omega)
    simp only [List.length_cons]; omega
  · have := decd_len 18 n.toNat (by have : (10 : Nat) ^ (18 + 1) = 10000000000000000000 := by decide
                                    omega)
    omega
theorem derBk_len {H : List UInt8 → List UInt8 → List UInt8} (hH : ∀ k s, (H k s).length = 32) (a b c : List UInt8) (n : Nat) : (derB H a b c n).length = n := by
  simp only [derB, List.length_take, hkAll_len hH]
  omega
theorem dX_len (a b c : List UInt8) (n : Nat) (h : n ≤ 8160) : (derX a b c n).length = n := by
  rw [derX_in (by omega) (by omega)]
  exact derBk_len hmacB_len a b c n
attribute [local irreducible] wpK wpS seqK blockK loopF regK meetK OpSpec Le sched wordTo rnds addTo rotr chunks takeB be64 outB sha padB xorTo keyB hmacB orTo keyOf hk hkAll derB derX
theorem der0_good (Γ : Gl) (key : List UInt8) (hk : key.length ≤ 1000) (n : Int) (hI : Go.Ot.Good Γ prog 22 [.t (num n)] [] (.t (txt (Lib.itoa n))) [] []) (hl : (Lib.itoa n).length ≤ 20)  : Go.Ot.Good Γ prog 19 [.t (txt key), .t (num 0), .t (num n)] [] (.t (txt (derX [100, 101, 97, 100, 100, 114, 111, 112] key (111 :: 119 :: 110 :: 32 :: Lib.itoa n) 32))) [] [] := by
  refine a_body F.mix func19 (by rfl) ntmps19 ?_
  refine k_seq ?_
  refine k_region rfl ?_
  refine a_op ?_
  refine s_nil (r_false ?_)
  refine q_next ?_
  refine k_seq ?_
  refine k_region rfl ?_
  iterate 5 refine a_op ?_
  refine s_nil (r_false ?_)
  refine q_next ?_
  refine k_seq ?_
  refine k_region rfl ?_
  refine a_op ?_
  refine s_nil (r_false ?_)
  refine q_next ?_
  refine k_seq ?_
  refine k_seq ?_
  refine k_region rfl ?_
  refine a_op ?_
  refine s_nil (r_false ?_)
  refine q_next ?_
  refine k_block ?_
  refine k_seq ?_
  refine k_block ?_
  refine k_seq ?_
  refine k_block ?_
  refine k_seq ?_
  refine k_block ?_
  refine k_seq ?_
  refine k_seq ?_
  refine k_seq ?_
  refine k_region rfl ?_
  refine a_op ?_
  refine a_op ?_
  refine s_nil (r_false ?_)
  refine q_next ?_
  refine a_false ?_
  refine k_skip ?_
  refine q_next ?_
  refine k_seq ?_
  refine k_seq ?_
  refine k_seq ?_
  refine k_region rfl ?_
  refine a_op ?_
  refine a_op ?_
  refine s_nil (r_false ?_)
  refine q_next ?_
  refine a_true ?_
  refine k_skip ?_
  refine q_next ?_
  refine a_true ?_
  refine k_exit ?_
  refine q_seq_exit (q_seq_exit (q_block_pass (by decide) (q_seq_exit (q_block_exit (q_next ?_)))))
  refine k_seq ?_
  refine k_region rfl ?_
  refine a_op ?_
  refine a_op ?_
  refine a_call [] false (hI) ?_
  iterate 3 refine a_op ?_
  refine s_nil (r_false ?_)
  refine q_next ?_
  refine k_exit ?_
  refine q_block_pass (by decide) (q_seq_exit (q_block_exit (q_next ?_)))
  refine k_seq ?_
  refine k_region rfl ?_
  iterate 3 refine a_op ?_
  refine a_call [] false (derive_good Γ [100, 101, 97, 100, 100, 114, 111, 112] key (111 :: 119 :: 110 :: 32 :: Lib.itoa n) 32 (by decide) (by omega) (by simp only [List.length_cons, List.length_nil]; omega)) ?_
  refine a_op ?_
  refine s_nil (r_false ?_)
  refine q_next ?_
  refine k_ret ?_
  refine ⟨.inr rfl, a_ret [] (by rw [results19]) ?_ ?_ ?_⟩ <;> simp [-List.map_set, -List.map_replicate, -List.reduceReplicate, -List.map_map, -List.map_drop, -List.map_take, num, bol, txt, w8, w16, w32, w64, lst, cls, rowO, boxO, List.take_of_length_le]

theorem Own_good (Γ : Gl) (key : List UInt8) (hk : key.length ≤ 1000) (n : Int) (hI : Go.Ot.Good Γ prog 22 [.t (num n)] [] (.t (txt (Lib.itoa n))) [] []) (hl : (Lib.itoa n).length ≤ 20)  : Go.Ot.Good Γ prog 8 [.t (txt key), .t (num n)] [] (.t (txt (derX [100, 101, 97, 100, 100, 114, 111, 112] key (111 :: 119 :: 110 :: 32 :: Lib.itoa n) 32))) [] [] := by
  refine a_body F.mix func8 (by rfl) ntmps8 ?_
  refine k_seq ?_
  refine k_region rfl ?_
  refine a_op ?_
  refine s_nil (r_false ?_)
  refine q_next ?_
  refine k_seq ?_
  refine k_region rfl ?_
  refine a_op ?_
  refine a_op ?_
  refine a_call [] false (der0_good Γ key hk n hI hl) ?_
  refine a_op ?_
  refine s_nil (r_false ?_)
  refine q_next ?_
  refine k_ret ?_
  refine ⟨.inr rfl, a_ret [] (by rw [results8]) ?_ ?_ ?_⟩ <;> simp [-List.map_set, -List.map_replicate, -List.reduceReplicate, -List.map_map, -List.map_drop, -List.map_take, num, bol, txt, w8, w16, w32, w64, lst, cls, rowO, boxO, List.take_of_length_le]

theorem refOwn_good (Γ : Gl) (key : List UInt8) (hk : key.length ≤ 1000) (n : Int) (h0 : -9223372036854775808 ≤ n) (h1 : n ≤ 9223372036854775807) : Go.Ot.Good Γ prog 9 [.t (txt key), .t (num n)] [] (.t (txt (derX [100, 101, 97, 100, 100, 114, 111, 112] key (111 :: 119 :: 110 :: 32 :: Lib.itoa n) 32))) [] [] := by
  have hl := itoa_len n h0 h1
  refine a_body F.mix func9 (by rfl) ntmps9 ?_
  refine k_seq ?_
  refine k_region rfl ?_
  refine a_op ?_
  refine s_nil (r_false ?_)
  refine q_next ?_
  refine k_seq ?_
  refine k_region rfl ?_
  refine a_op ?_
  refine a_op ?_
  refine a_call [] false (dig_good Γ n h0 h1) ?_
  refine a_op ?_
  refine a_call [] false (refderive_good Γ [100, 101, 97, 100, 100, 114, 111, 112] key (111 :: 119 :: 110 :: 32 :: Lib.itoa n) 32 (by decide) (by omega) (by simp only [List.length_cons, List.length_nil]; omega)) ?_
  refine a_op ?_
  refine s_nil (r_false ?_)
  refine q_next ?_
  refine k_ret ?_
  refine ⟨.inr rfl, a_ret [] (by rw [results9]) ?_ ?_ ?_⟩ <;> simp [-List.map_set, -List.map_replicate, -List.reduceReplicate, -List.map_map, -List.map_drop, -List.map_take, num, bol, txt, w8, w16, w32, w64, lst, cls, rowO, boxO, List.take_of_length_le]

theorem der1_good (Γ : Gl) (key : List UInt8) (hk : key.length ≤ 1000) (n : Int) (hI : Go.Ot.Good Γ prog 22 [.t (num n)] [] (.t (txt (Lib.itoa n))) [] []) (hl : (Lib.itoa n).length ≤ 20)  : Go.Ot.Good Γ prog 19 [.t (txt key), .t (num 1), .t (num n)] [] (.t (txt (derX [100, 101, 97, 100, 100, 114, 111, 112] key (101 :: 112 :: 111 :: 99 :: 104 :: 32 :: Lib.itoa n) 32))) [] [] := by
  refine a_body F.mix func19 (by rfl) ntmps19 ?_
  refine k_seq ?_
  refine k_region rfl ?_
  refine a_op ?_
  refine s_nil (r_false ?_)
  refine q_next ?_
  refine k_seq ?_
  refine k_region rfl ?_
  iterate 5 refine a_op ?_
  refine s_nil (r_false ?_)
  refine q_next ?_
  refine k_seq ?_
  refine k_region rfl ?_
  refine a_op ?_
  refine s_nil (r_false ?_)
  refine q_next ?_
  refine k_seq ?_
  refine k_seq ?_
  refine k_region rfl ?_
  refine a_op ?_
  refine s_nil (r_false ?_)
  refine q_next ?_
  refine k_block ?_
  refine k_seq ?_
  refine k_block ?_
  refine k_seq ?_
  refine k_block ?_
  refine k_seq ?_
  refine k_block ?_
  refine k_seq ?_
  refine k_seq ?_
  refine k_seq ?_
  refine k_region rfl ?_
  refine a_op ?_
  refine a_op ?_
  refine s_nil (r_false ?_)
  refine q_next ?_
  refine a_false ?_
  refine k_skip ?_
  refine q_next ?_
  refine k_seq ?_
  refine k_seq ?_
  refine k_seq ?_
  refine k_region rfl ?_
  refine a_op ?_
  refine a_op ?_
  refine s_nil (r_false ?_)
  refine q_next ?_
  refine a_false ?_
  refine k_region rfl ?_
  refine a_op ?_
  refine a_op ?_
  refine s_nil (r_false ?_)
  refine q_next ?_
  refine a_true ?_
  refine k_exit ?_
  refine q_seq_exit (q_seq_exit (q_block_pass (by decide) (q_seq_exit (q_block_exit (q_next ?_)))))
  refine k_seq ?_
  refine k_region rfl ?_
  refine a_op ?_
  refine a_op ?_
  refine a_call [] false (hI) ?_
  iterate 3 refine a_op ?_
  refine s_nil (r_false ?_)
  refine q_next ?_
  refine k_exit ?_
  refine q_block_pass (by decide) (q_seq_exit (q_block_exit (q_next ?_)))
  refine k_seq ?_
  refine k_region rfl ?_
  iterate 3 refine a_op ?_
  refine a_call [] false (derive_good Γ [100, 101, 97, 100, 100, 114, 111, 112] key (101 :: 112 :: 111 :: 99 :: 104 :: 32 :: Lib.itoa n) 32 (by decide) (by omega) (by simp only [List.length_cons, List.length_nil]; omega)) ?_
  refine a_op ?_
  refine s_nil (r_false ?_)
  refine q_next ?_
  refine k_ret ?_
  refine ⟨.inr rfl, a_ret [] (by rw [results19]) ?_ ?_ ?_⟩ <;> simp [-List.map_set, -List.map_replicate, -List.reduceReplicate, -List.map_map, -List.map_drop, -List.map_take, num, bol, txt, w8, w16, w32, w64, lst, cls, rowO, boxO, List.take_of_length_le]

theorem Epoch_good (Γ : Gl) (key : List UInt8) (hk : key.length ≤ 1000) (n : Int) (hI : Go.Ot.Good Γ prog 22 [.t (num n)] [] (.t (txt (Lib.itoa n))) [] []) (hl : (Lib.itoa n).length ≤ 20)  : Go.Ot.Good Γ prog 10 [.t (txt key), .t (num n)] [] (.t (txt (derX [100, 101, 97, 100, 100, 114, 111, 112] key (101 :: 112 :: 111 :: 99 :: 104 :: 32 :: Lib.itoa n) 32))) [] [] := by
  refine a_body F.mix func10 (by rfl) ntmps10 ?_
  refine k_seq ?_
  refine k_region rfl ?_
  refine a_op ?_
  refine s_nil (r_false ?_)
  refine q_next ?_
  refine k_seq ?_
  refine k_region rfl ?_
  refine a_op ?_
  refine a_op ?_
  refine a_call [] false (der1_good Γ key hk n hI hl) ?_
  refine a_op ?_
  refine s_nil (r_false ?_)
  refine q_next ?_
  refine k_ret ?_
  refine ⟨.inr rfl, a_ret [] (by rw [results10]) ?_ ?_ ?_⟩ <;> simp [-List.map_set, -List.map_replicate, -List.reduceReplicate, -List.map_map, -List.map_drop, -List.map_take, num, bol, txt, w8, w16, w32, w64, lst, cls, rowO, boxO, List.take_of_length_le]

theorem refEpoch_good (Γ : Gl) (key : List UInt8) (hk : key.length ≤ 1000) (n : Int) (h0 : -9223372036854775808 ≤ n) (h1 : n ≤ 9223372036854775807) : Go.Ot.Good Γ prog 11 [.t (txt key), .t (num n)] [] (.t (txt (derX [100, 101, 97, 100, 100, 114, 111, 112] key (101 :: 112 :: 111 :: 99 :: 104 :: 32 :: Lib.itoa n) 32))) [] [] := by
  have hl := itoa_len n h0 h1
  refine a_body F.mix func11 (by rfl) ntmps11 ?_
  refine k_seq ?_
  refine k_region rfl ?_
  refine a_op ?_
  refine s_nil (r_false ?_)
  refine q_next ?_
  refine k_seq ?_
  refine k_region rfl ?_
  refine a_op ?_
  refine a_op ?_
  refine a_call [] false (dig_good Γ n h0 h1) ?_
  refine a_op ?_
  refine a_call [] false (refderive_good Γ [100, 101, 97, 100, 100, 114, 111, 112] key (101 :: 112 :: 111 :: 99 :: 104 :: 32 :: Lib.itoa n) 32 (by decide) (by omega) (by simp only [List.length_cons, List.length_nil]; omega)) ?_
  refine a_op ?_
  refine s_nil (r_false ?_)
  refine q_next ?_
  refine k_ret ?_
  refine ⟨.inr rfl, a_ret [] (by rw [results11]) ?_ ?_ ?_⟩ <;> simp [-List.map_set, -List.map_replicate, -List.reduceReplicate, -List.map_map, -List.map_drop, -List.map_take, num, bol, txt, w8, w16, w32, w64, lst, cls, rowO, boxO, List.take_of_length_le]

theorem der2_good (Γ : Gl) (key : List UInt8) (hk : key.length ≤ 1000) (n : Int) (hI : Go.Ot.Good Γ prog 22 [.t (num n)] [] (.t (txt (Lib.itoa n))) [] []) (hl : (Lib.itoa n).length ≤ 20)  : Go.Ot.Good Γ prog 19 [.t (txt key), .t (num 2), .t (num n)] [] (.t (txt (derX [100, 101, 97, 100, 100, 114, 111, 112] key (115 :: 101 :: 110 :: 100 :: 32 :: Lib.itoa n) 64))) [] [] := by
  refine a_body F.mix func19 (by rfl) ntmps19 ?_
  refine k_seq ?_
  refine k_region rfl ?_
  refine a_op ?_
  refine s_nil (r_false ?_)
  refine q_next ?_
  refine k_seq ?_
  refine k_region rfl ?_
  iterate 5 refine a_op ?_
  refine s_nil (r_false ?_)
  refine q_next ?_
  refine k_seq ?_
  refine k_region rfl ?_
  refine a_op ?_
  refine s_nil (r_false ?_)
  refine q_next ?_
  refine k_seq ?_
  refine k_seq ?_
  refine k_region rfl ?_
  refine a_op ?_
  refine s_nil (r_false ?_)
  refine q_next ?_
  refine k_block ?_
  refine k_seq ?_
  refine k_block ?_
  refine k_seq ?_
  refine k_block ?_
  refine k_seq ?_
  refine k_block ?_
  refine k_seq ?_
  refine k_seq ?_
  refine k_seq ?_
  refine k_region rfl ?_
  refine a_op ?_
  refine a_op ?_
  refine s_nil (r_false ?_)
  refine q_next ?_
  refine a_true ?_
  refine k_exit ?_
  refine q_seq_exit (q_seq_exit (q_block_exit (q_next ?_)))
  refine k_region rfl ?_
  refine a_op ?_
  refine s_nil (r_false ?_)
  refine q_block (q_next ?_)
  refine k_seq ?_
  refine k_region rfl ?_
  refine a_op ?_
  refine a_op ?_
  refine a_call [] false (hI) ?_
  iterate 3 refine a_op ?_
  refine s_nil (r_false ?_)
  refine q_next ?_
  refine k_exit ?_
  refine q_block_pass (by decide) (q_seq_exit (q_block_exit (q_next ?_)))
  refine k_seq ?_
  refine k_region rfl ?_
  iterate 3 refine a_op ?_
  refine a_call [] false (derive_good Γ [100, 101, 97, 100, 100, 114, 111, 112] key (115 :: 101 :: 110 :: 100 :: 32 :: Lib.itoa n) 64 (by decide) (by omega) (by simp only [List.length_cons, List.length_nil]; omega)) ?_
  refine a_op ?_
  refine s_nil (r_false ?_)
  refine q_next ?_
  refine k_ret ?_
  refine ⟨.inr rfl, a_ret [] (by rw [results19]) ?_ ?_ ?_⟩ <;> simp [-List.map_set, -List.map_replicate, -List.reduceReplicate, -List.map_map, -List.map_drop, -List.map_take, num, bol, txt, w8, w16, w32, w64, lst, cls, rowO, boxO, List.take_of_length_le]

theorem Send_good (Γ : Gl) (key : List UInt8) (hk : key.length ≤ 1000) (n : Int) (hI : Go.Ot.Good Γ prog 22 [.t (num n)] [] (.t (txt (Lib.itoa n))) [] []) (hl : (Lib.itoa n).length ≤ 20)  : Go.Ot.Good Γ prog 12 [.t (txt key), .t (num n)] [] (.t (txt (derX [100, 101, 97, 100, 100, 114, 111, 112] key (115 :: 101 :: 110 :: 100 :: 32 :: Lib.itoa n) 64))) [] [] := by
  refine a_body F.mix func12 (by rfl) ntmps12 ?_
  refine k_seq ?_
  refine k_region rfl ?_
  refine a_op ?_
  refine s_nil (r_false ?_)
  refine q_next ?_
  refine k_seq ?_
  refine k_region rfl ?_
  refine a_op ?_
  refine a_op ?_
  refine a_call [] false (der2_good Γ key hk n hI hl) ?_
  refine a_op ?_
  refine s_nil (r_false ?_)
  refine q_next ?_
  refine k_ret ?_
  refine ⟨.inr rfl, a_ret [] (by rw [results12]) ?_ ?_ ?_⟩ <;> simp [-List.map_set, -List.map_replicate, -List.reduceReplicate, -List.map_map, -List.map_drop, -List.map_take, num, bol, txt, w8, w16, w32, w64, lst, cls, rowO, boxO, List.take_of_length_le]

theorem refSend_good (Γ : Gl) (key : List UInt8) (hk : key.length ≤ 1000) (n : Int) (h0 : -9223372036854775808 ≤ n) (h1 : n ≤ 9223372036854775807) : Go.Ot.Good Γ prog 13 [.t (txt key), .t (num n)] [] (.t (txt (derX [100, 101, 97, 100, 100, 114, 111, 112] key (115 :: 101 :: 110 :: 100 :: 32 :: Lib.itoa n) 64))) [] [] := by
  have hl := itoa_len n h0 h1
  refine a_body F.mix func13 (by rfl) ntmps13 ?_
  refine k_seq ?_
  refine k_region rfl ?_
  refine a_op ?_
  refine s_nil (r_false ?_)
  refine q_next ?_
  refine k_seq ?_
  refine k_region rfl ?_
  refine a_op ?_
  refine a_op ?_
  refine a_call [] false (dig_good Γ n h0 h1) ?_
  refine a_op ?_
  refine a_call [] false (refderive_good Γ [100, 101, 97, 100, 100, 114, 111, 112] key (115 :: 101 :: 110 :: 100 :: 32 :: Lib.itoa n) 64 (by decide) (by omega) (by simp only [List.length_cons, List.length_nil]; omega)) ?_
  refine a_op ?_
  refine s_nil (r_false ?_)
  refine q_next ?_
  refine k_ret ?_
  refine ⟨.inr rfl, a_ret [] (by rw [results13]) ?_ ?_ ?_⟩ <;> simp [-List.map_set, -List.map_replicate, -List.reduceReplicate, -List.map_map, -List.map_drop, -List.map_take, num, bol, txt, w8, w16, w32, w64, lst, cls, rowO, boxO, List.take_of_length_le]

theorem der3_good (Γ : Gl) (key : List UInt8) (hk : key.length ≤ 1000) (n : Int)  : Go.Ot.Good Γ prog 19 [.t (txt key), .t (num 3), .t (num n)] [] (.t (txt (derX [100, 101, 97, 100, 100, 114, 111, 112] key [119, 114, 97, 112] 64))) [] [] := by
  refine a_body F.mix func19 (by rfl) ntmps19 ?_
  refine k_seq ?_
  refine k_region rfl ?_
  refine a_op ?_
  refine s_nil (r_false ?_)
  refine q_next ?_
  refine k_seq ?_
  refine k_region rfl ?_
  iterate 5 refine a_op ?_
  refine s_nil (r_false ?_)
  refine q_next ?_
  refine k_seq ?_
  refine k_region rfl ?_
  refine a_op ?_
  refine s_nil (r_false ?_)
  refine q_next ?_
  refine k_seq ?_
  refine k_seq ?_
  refine k_region rfl ?_
  refine a_op ?_
  refine s_nil (r_false ?_)
  refine q_next ?_
  refine k_block ?_
  refine k_seq ?_
  refine k_block ?_
  refine k_seq ?_
  refine k_block ?_
  refine k_seq ?_
  refine k_block ?_
  refine k_seq ?_
  refine k_seq ?_
  refine k_seq ?_
  refine k_region rfl ?_
  refine a_op ?_
  refine a_op ?_
  refine s_nil (r_false ?_)
  refine q_next ?_
  refine a_false ?_
  refine k_skip ?_
  refine q_next ?_
  refine k_seq ?_
  refine k_seq ?_
  refine k_seq ?_
  refine k_region rfl ?_
  refine a_op ?_
  refine a_op ?_
  refine s_nil (r_false ?_)
  refine q_next ?_
  refine a_false ?_
  refine k_region rfl ?_
  refine a_op ?_
  refine a_op ?_
  refine s_nil (r_false ?_)
  refine q_next ?_
  refine a_false ?_
  refine k_skip ?_
  refine q_next ?_
  refine k_seq ?_
  refine k_region rfl ?_
  refine a_op ?_
  refine a_op ?_
  refine s_nil (r_false ?_)
  refine q_next ?_
  refine a_true ?_
  refine k_exit ?_
  refine q_seq_exit (q_block_pass (by decide) (q_seq_exit (q_block_pass (by decide) (q_seq_exit (q_block_exit (q_next ?_))))))
  refine k_seq ?_
  refine k_region rfl ?_
  refine a_op ?_
  refine s_nil (r_false ?_)
  refine q_next ?_
  refine k_exit ?_
  refine q_block_exit (q_next ?_)
  refine k_seq ?_
  refine k_region rfl ?_
  iterate 3 refine a_op ?_
  refine a_call [] false (derive_good Γ [100, 101, 97, 100, 100, 114, 111, 112] key [119, 114, 97, 112] 64 (by decide) (by omega) (by simp only [List.length_cons, List.length_nil]; omega)) ?_
  refine a_op ?_
  refine s_nil (r_false ?_)
  refine q_next ?_
  refine k_ret ?_
  refine ⟨.inr rfl, a_ret [] (by rw [results19]) ?_ ?_ ?_⟩ <;> simp [-List.map_set, -List.map_replicate, -List.reduceReplicate, -List.map_map, -List.map_drop, -List.map_take, num, bol, txt, w8, w16, w32, w64, lst, cls, rowO, boxO, List.take_of_length_le]

theorem Wrap_good (Γ : Gl) (key : List UInt8) (hk : key.length ≤ 1000) : Go.Ot.Good Γ prog 14 [.t (txt key)] [] (.t (txt (derX [100, 101, 97, 100, 100, 114, 111, 112] key [119, 114, 97, 112] 64))) [] [] := by
  refine a_body F.mix func14 (by rfl) ntmps14 ?_
  refine k_seq ?_
  refine k_region rfl ?_
  refine a_op ?_
  refine s_nil (r_false ?_)
  refine q_next ?_
  refine k_seq ?_
  refine k_region rfl ?_
  refine a_op ?_
  refine a_call [] false (der3_good Γ key hk 0) ?_
  refine a_op ?_
  refine s_nil (r_false ?_)
  refine q_next ?_
  refine k_ret ?_
  refine ⟨.inr rfl, a_ret [] (by rw [results14]) ?_ ?_ ?_⟩ <;> simp [-List.map_set, -List.map_replicate, -List.reduceReplicate, -List.map_map, -List.map_drop, -List.map_take, num, bol, txt, w8, w16, w32, w64, lst, cls, rowO, boxO, List.take_of_length_le]

theorem refWrap_good (Γ : Gl) (key : List UInt8) (hk : key.length ≤ 1000) : Go.Ot.Good Γ prog 15 [.t (txt key)] [] (.t (txt (derX [100, 101, 97, 100, 100, 114, 111, 112] key [119, 114, 97, 112] 64))) [] [] := by
  refine a_body F.mix func15 (by rfl) ntmps15 ?_
  refine k_seq ?_
  refine k_region rfl ?_
  refine a_op ?_
  refine s_nil (r_false ?_)
  refine q_next ?_
  refine k_seq ?_
  refine k_region rfl ?_
  refine a_op ?_
  refine a_call [] false (refderive_good Γ [100, 101, 97, 100, 100, 114, 111, 112] key [119, 114, 97, 112] 64 (by decide) (by omega) (by decide)) ?_
  refine a_op ?_
  refine s_nil (r_false ?_)
  refine q_next ?_
  refine k_ret ?_
  refine ⟨.inr rfl, a_ret [] (by rw [results15]) ?_ ?_ ?_⟩ <;> simp [-List.map_set, -List.map_replicate, -List.reduceReplicate, -List.map_map, -List.map_drop, -List.map_take, num, bol, txt, w8, w16, w32, w64, lst, cls, rowO, boxO, List.take_of_length_le]

end Go.Proofs.Tryd
