import Derived.Test.YtkbbakabdedicaaSE
set_option maxHeartbeats 4000000
set_option maxRecDepth 100000
set_option linter.unusedVariables false
set_option linter.unusedSimpArgs false
namespace Go.Proofs.Try
open Go Go.Ot
attribute [local irreducible] wpK wpS seqK blockK loopF regK meetK OpSpec Le sched wordTo rnds addTo rotr chunks takeB be64 outB sha padB
attribute [push_cast] sha_len
theorem e0 : (sha ([] : List (List UInt8)).flatten).take 4 = [UInt8.ofInt 227, UInt8.ofInt 176, UInt8.ofInt 196, UInt8.ofInt 66] := by decide +kernel
def M0 : List UInt8 := [97, 98, 99]
theorem k0 : sha ([[97, 98, 99]] : List (List UInt8)).flatten = [186, 120, 22, 191, 143, 1, 207, 234, 65, 65, 64, 222, 93, 174, 34, 35, 176, 3, 97, 163, 150, 23, 122, 156, 180, 16, 255, 97, 242, 0, 21, 173] := by decide +kernel
def M1 : List UInt8 := [97, 98, 99, 100, 98, 99, 100, 101, 99, 100, 101, 102, 100, 101, 102, 103, 101, 102, 103, 104, 102, 103, 104, 105, 103, 104, 105, 106, 104, 105, 106, 107, 105, 106, 107, 108, 106, 107, 108, 109, 107, 108, 109, 110, 108, 109, 110, 111, 109, 110, 111, 112, 110, 111, 112, 113]
theorem k1 : sha ([[97, 98, 99, 100, 98, 99, 100, 101, 99, 100, 101, 102, 100, 101, 102, 103, 101, 102, 103, 104, 102, 103, 104, 105, 103, 104, 105, 106, 104, 105, 106, 107, 105, 106, 107, 108, 106, 107, 108, 109, 107, 108, 109, 110, 108, 109, 110, 111, 109, 110, 111, 112, 110, 111, 112, 113]] : List (List UInt8)).flatten = [36, 141, 106, 97, 210, 6, 56, 184, 229, 192, 38, 147, 12, 62, 96, 57, 163, 60, 228, 89, 100, 255, 33, 103, 246, 236, 237, 212, 25, 219, 6, 193] := by decide +kernel
def M2 : List UInt8 := [84, 104, 101, 32, 113, 117, 105, 99, 107, 32, 98, 114, 111, 119, 110, 32, 102, 111, 120, 32, 106, 117, 109, 112, 115, 32, 111, 118, 101, 114, 32, 116, 104, 101, 32, 108, 97, 122, 121, 32, 100, 111, 103]
theorem k2 : sha ([[84, 104, 101, 32, 113, 117, 105, 99, 107, 32, 98, 114, 111, 119, 110, 32, 102, 111, 120, 32, 106, 117, 109, 112, 115, 32, 111, 118, 101, 114, 32, 116, 104, 101, 32, 108, 97, 122, 121, 32, 100, 111, 103]] : List (List UInt8)).flatten = [215, 168, 251, 179, 7, 215, 128, 148, 105, 202, 154, 188, 176, 8, 46, 79, 141, 86, 81, 228, 109, 60, 219, 118, 45, 2, 208, 191, 55, 201, 229, 146] := by decide +kernel
attribute [push_cast] M0 M1 M2
theorem awake_good (Γ : Gl)  : Go.Ot.Good Γ prog 10 [] [] (.t (bol true)) [] [] := by
  refine a_body F.mix func10 (by rfl) ntmps10 ?_
  refine k_seq ?_
  refine k_region rfl ?_
  refine a_op ?_
  refine s_nil (r_false ?_)
  refine q_next ?_
  refine k_seq ?_
  refine k_region rfl ?_
  refine a_call [] false (sum_good Γ [] (by decide) (by decide)) ?_
  refine a_op ?_
  refine s_nil (r_false ?_)
  refine q_next ?_
  refine k_seq ?_
  refine k_region rfl ?_
  iterate 4 refine a_opd ?_
  first | refine a_god ?_ | refine a_nod ?_ | refine a_mayd ?_
  first | refine a_god ?_ | refine a_nod ?_ | refine a_mayd ?_
  first | refine a_god ?_ | refine a_nod ?_ | refine a_mayd ?_
  first | refine a_textgod ?_ | refine a_textsgod ?_
  refine a_god (hs := by (simp only [push_cast, e0] <;> rfl)) ?_
  refine a_opd ?_
  refine a_opd ?_
  refine s_nil (r_true (by kernel_rfl) ?_)
  refine q_next ?_
  refine k_ret ?_
  refine ⟨.inr rfl, a_ret [] (by rw [results10]) ?_ ?_ ?_⟩ <;> simp [-List.map_set, -List.map_replicate, -List.reduceReplicate, -List.map_map, -List.map_drop, -List.map_take, num, bol, txt, w8, w16, w32, w64, lst, cls, rowO, boxO, List.take_of_length_le]

theorem known_good (Γ : Gl) (n : UInt8) : Go.Ot.Good Γ prog 6 [.t (w8 n)] [] (.t (bol true)) [] [] := by
  refine a_body F.mix func6 (by rfl) ntmps6 ?_
  refine k_seq ?_
  refine k_region rfl ?_
  refine a_op ?_
  refine s_nil (r_false ?_)
  refine q_next ?_
  refine k_seq ?_
  refine k_region rfl ?_
  refine a_op ?_
  refine a_op ?_
  refine s_nil (r_false ?_)
  refine q_next ?_
  refine k_seq ?_
  refine k_region rfl ?_
  refine a_op ?_
  refine a_op ?_
  refine s_nil (r_false ?_)
  refine q_next ?_
  refine k_seq ?_
  refine k_region rfl ?_
  have hn := UInt8.toNat_lt n
  iterate 6 refine a_op ?_
  refine s_nil (r_false ?_)
  refine q_next ?_
  refine k_seq ?_
  refine k_region rfl ?_
  have h3 : (n.toNat : Int) % 3 = 0 ∨ (n.toNat : Int) % 3 = 1 ∨ (n.toNat : Int) % 3 = 2 := by omega
  rcases h3 with h3 | h3 | h3
  · rw [h3]
    iterate 5 refine a_opd ?_
    refine a_calld [.r 4 4 0] false (sum_good Γ [M0] (by decide) (by decide)) ?_
    iterate 4 refine a_opd ?_
    refine a_opd (hs := by (simp only [push_cast, k0] <;> rfl)) ?_
    refine a_opd ?_
    refine a_callgod [] false (awake_good Γ) ?_
    refine a_opd ?_
    refine a_opd ?_
    refine s_nil (r_true (by kernel_rfl) ?_)
    refine q_next ?_
    refine k_ret ?_
    refine ⟨.inr rfl, a_ret [] (by rw [results6]) ?_ ?_ ?_⟩ <;> simp [-List.map_set, -List.map_replicate, -List.reduceReplicate, -List.map_map, -List.map_drop, -List.map_take, num, bol, txt, w8, w16, w32, w64, lst, cls, rowO, boxO, List.take_of_length_le]
  · rw [h3]
    iterate 5 refine a_opd ?_
    refine a_calld [.r 4 4 0] false (sum_good Γ [M1] (by decide) (by decide)) ?_
    iterate 4 refine a_opd ?_
    refine a_opd (hs := by (simp only [push_cast, k1] <;> rfl)) ?_
    refine a_opd ?_
    refine a_callgod [] false (awake_good Γ) ?_
    refine a_opd ?_
    refine a_opd ?_
    refine s_nil (r_true (by kernel_rfl) ?_)
    refine q_next ?_
    refine k_ret ?_
    refine ⟨.inr rfl, a_ret [] (by rw [results6]) ?_ ?_ ?_⟩ <;> simp [-List.map_set, -List.map_replicate, -List.reduceReplicate, -List.map_map, -List.map_drop, -List.map_take, num, bol, txt, w8, w16, w32, w64, lst, cls, rowO, boxO, List.take_of_length_le]
  · rw [h3]
    iterate 5 refine a_opd ?_
    refine a_calld [.r 4 4 0] false (sum_good Γ [M2] (by decide) (by decide)) ?_
    iterate 4 refine a_opd ?_
    refine a_opd (hs := by (simp only [push_cast, k2] <;> rfl)) ?_
    refine a_opd ?_
    refine a_callgod [] false (awake_good Γ) ?_
    refine a_opd ?_
    refine a_opd ?_
    refine s_nil (r_true (by kernel_rfl) ?_)
    refine q_next ?_
    refine k_ret ?_
    refine ⟨.inr rfl, a_ret [] (by rw [results6]) ?_ ?_ ?_⟩ <;> simp [-List.map_set, -List.map_replicate, -List.reduceReplicate, -List.map_map, -List.map_drop, -List.map_take, num, bol, txt, w8, w16, w32, w64, lst, cls, rowO, boxO, List.take_of_length_le]

end Go.Proofs.Try
