import Derived.Test.YtcajgckomhhglaaSCP
set_option maxHeartbeats 4000000
set_option maxRecDepth 100000
set_option linter.unusedVariables false
set_option linter.unusedSimpArgs false
namespace Go.Proofs.Try
open Go Go.Ot
attribute [local irreducible] wpK wpS seqK blockK loopF regK meetK OpSpec Le
theorem rot_and2 : ∀ n : Nat, n < 32 → bits .and .u64 (n : Int) 31 = (n : Int) := by decide
theorem rotp_good (Γ : Gl) (x : UInt32) (n : Nat) (h0 : 0 < n) (h1 : n < 32) : Go.Ot.Good Γ prog 58 [.t (w32 x), .t (num (n : Int))] [] (.t (w32 (lft x n))) [] [] := by
  refine a_body F.mix func58 (by rfl) ntmps58 ?_
  refine k_seq ?_
  refine k_region rfl ?_
  refine a_op ?_
  refine s_nil (r_false ?_)
  refine q_next ?_
  refine k_seq ?_
  refine k_region rfl ?_
  refine a_op ?_
  refine a_op ?_
  refine a_op (hs := by (simp only [push_cast, rot_and2 n h1] <;> rfl)) ?_
  refine a_op ?_
  refine s_nil (r_false ?_)
  refine q_next ?_
  refine k_seq ?_
  refine k_region rfl ?_
  iterate 9 refine a_op ?_
  refine s_nil (r_false ?_)
  refine q_next ?_
  refine k_ret ?_
  refine ⟨.inr rfl, a_ret [] (by rw [results58]) ?_ ?_ ?_⟩ <;> simp [-List.map_set, -List.map_replicate, -List.reduceReplicate, -List.map_map, -List.map_drop, -List.map_take, num, bol, txt, w8, w16, w32, w64, lst, cls, rowO, boxO, List.take_of_length_le, lft, w32, show ((32 : Int) - (n : Int)).toNat = 32 - n from by omega]

theorem step_good (Γ : Gl) (l : List UInt32) (a b d n : Nat) (hl : l.length = 16) (ha : a < 16) (hb : b < 16) (hd : d < 16) (h0 : 0 < n) (h1 : n < 32) : Go.Ot.Good Γ prog 49 [.ptr (.p 0) 0, .t (num a), .t (num b), .t (num d), .t (num n)] [boxO 88 (cls w32 (l))] (.tup []) [some (boxO 88 (cls w32 (stepL l a b d n)))] [] := by
  have hga : ∀ x : UInt32, (l.set a x)[a]?.getD 0 = x := fun x => by rw [List.getElem?_set_self (by omega)]; rfl
  refine a_body F.mix func49 (by rfl) ntmps49 ?_
  refine k_seq ?_
  refine k_region rfl ?_
  iterate 14 refine a_opd ?_
  refine s_nil (r_true (by kernel_rfl) ?_)
  refine q_next ?_
  refine k_region rfl ?_
  iterate 14 refine a_opd ?_
  refine a_calld [] false (rotp_good Γ ((l.set a (l.getD a 0 + l.getD b 0)).getD d 0 ^^^ (l.set a (l.getD a 0 + l.getD b 0)).getD a 0) n h0 h1) ?_
  iterate 3 refine a_opd ?_
  refine s_nil (r_true (by kernel_rfl) ?_)
  refine ⟨.inl rfl, a_ret [(.p 0, .p 0)] (by rw [results49]) ?_ ?_ ?_⟩ <;> simp [-List.map_set, -List.map_replicate, -List.reduceReplicate, -List.map_map, -List.map_drop, -List.map_take, num, bol, txt, w8, w16, w32, w64, lst, cls, rowO, boxO, List.take_of_length_le, stepL, turnL, addL, hga]

theorem quar_good (Γ : Gl) (l : List UInt32) (a b c d : Nat) (hl : l.length = 16) (ha : a < 16) (hb : b < 16) (hc : c < 16) (hd : d < 16) : Go.Ot.Good Γ prog 43 [.ptr (.p 0) 0, .t (num a), .t (num b), .t (num c), .t (num d)] [boxO 88 (cls w32 (l))] (.tup []) [some (boxO 88 (cls w32 (quarL l a b c d)))] [] := by
  refine a_body F.mix func43 (by rfl) ntmps43 ?_
  refine k_seq ?_
  refine k_region rfl ?_
  iterate 4 refine a_op ?_
  refine a_callp [.p 0] [] [] false (step_good Γ (l) a b d 16 (by simp [hl, stepL_len]) ha hb hd (by omega) (by omega)) ?_
  refine s_nil (r_false ?_)
  refine q_next ?_
  refine k_seq ?_
  refine k_region rfl ?_
  iterate 4 refine a_op ?_
  refine a_callp [.p 0] [] [] false (step_good Γ (stepL l a b d 16) c d b 12 (by simp [hl, stepL_len]) hc hd hb (by omega) (by omega)) ?_
  refine s_nil (r_false ?_)
  refine q_next ?_
  refine k_seq ?_
  refine k_region rfl ?_
  iterate 4 refine a_op ?_
  refine a_callp [.p 0] [] [] false (step_good Γ (stepL (stepL l a b d 16) c d b 12) a b d 8 (by simp [hl, stepL_len]) ha hb hd (by omega) (by omega)) ?_
  refine s_nil (r_false ?_)
  refine q_next ?_
  refine k_region rfl ?_
  iterate 4 refine a_op ?_
  refine a_callp [.p 0] [] [] false (step_good Γ (stepL (stepL (stepL l a b d 16) c d b 12) a b d 8) c d b 7 (by simp [hl, stepL_len]) hc hd hb (by omega) (by omega)) ?_
  refine s_nil (r_false ?_)
  refine ⟨.inl rfl, a_ret [(.p 0, .p 0)] (by rw [results43]) ?_ ?_ ?_⟩ <;> simp [-List.map_set, -List.map_replicate, -List.reduceReplicate, -List.map_map, -List.map_drop, -List.map_take, num, bol, txt, w8, w16, w32, w64, lst, cls, rowO, boxO, List.take_of_length_le, quarL]

theorem word_good (Γ : Gl) (s : List UInt8) (i : Nat) (h : i + 3 < s.length) (hs : s.length ≤ 1000000) : Go.Ot.Good Γ prog 42 [.t (txt s), .t (num i)] [] (.t (w32 (wrd s i))) [] [] := by
  refine a_body F.mix func42 (by rfl) ntmps42 ?_
  refine k_seq ?_
  refine k_region rfl ?_
  refine a_op ?_
  refine s_nil (r_false ?_)
  refine q_next ?_
  refine k_seq ?_
  refine k_region rfl ?_
  iterate 26 refine a_opd ?_
  refine s_nil (r_true (by kernel_rfl) ?_)
  refine q_next ?_
  refine k_ret ?_
  refine ⟨.inr rfl, a_ret [] (by rw [results42]) ?_ ?_ ?_⟩ <;> simp [-List.map_set, -List.map_replicate, -List.reduceReplicate, -List.map_map, -List.map_drop, -List.map_take, num, bol, txt, w8, w16, w32, w64, lst, cls, rowO, boxO, List.take_of_length_le, wrd, w32, show ((i : Int) + 2).toNat = i + 2 from by omega, show ((i : Int) + 3).toNat = i + 3 from by omega]

theorem may_good (Γ : Gl) (key nonce : List UInt8) (c : Int) : Go.Ot.Good Γ prog 35 [.t (txt key), .t (txt nonce), .t (num c)] [] (.t (bol (decide (key.length = 32 ∧ nonce.length = 12 ∧ 0 ≤ c ∧ c < 4294967296)))) [] [] := by
  refine a_body F.mix func35 (by rfl) ntmps35 ?_
  refine k_seq ?_
  refine k_region rfl ?_
  refine a_op ?_
  refine s_nil (r_false ?_)
  refine q_next ?_
  refine k_seq ?_
  refine k_region rfl ?_
  iterate 4 refine a_op ?_
  refine a_may ?_
  refine a_may ?_
  refine a_may ?_
  refine a_op ?_
  refine a_op ?_
  refine a_may ?_
  refine a_may ?_
  refine a_op ?_
  refine a_op ?_
  refine a_may ?_
  refine a_may ?_
  refine a_op ?_
  refine a_op ?_
  refine s_nil (r_false ?_)
  refine q_next ?_
  refine k_ret ?_
  refine ⟨.inr rfl, a_ret [] (by rw [results35]) ?_ ?_ ?_⟩ <;> simp [-List.map_set, -List.map_replicate, -List.reduceReplicate, -List.map_map, -List.map_drop, -List.map_take, num, bol, txt, w8, w16, w32, w64, lst, cls, rowO, boxO, List.take_of_length_le, Bool.and_assoc, show ((key.length : Int) = 32) = (key.length = 32) from propext (by omega), show ((nonce.length : Int) = 12) = (nonce.length = 12) from propext (by omega)]

end Go.Proofs.Try
