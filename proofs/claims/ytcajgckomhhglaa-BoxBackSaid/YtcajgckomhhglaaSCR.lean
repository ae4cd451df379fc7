import Derived.Test.YtcajgckomhhglaaSCP
import Derived.Test.YtcajgckomhhglaaSI
set_option maxHeartbeats 4000000
set_option maxRecDepth 100000
set_option linter.unusedVariables false
set_option linter.unusedSimpArgs false
namespace Go.Proofs.Try
open Go Go.Ot
attribute [local irreducible] wpK wpS seqK blockK loopF regK meetK OpSpec Le addL turnL stepL quarL
theorem low_good (Γ : Gl) (s : List UInt8) (i : Nat) (h : i + 3 < s.length) (hs : s.length ≤ 1000000) : Go.Ot.Good Γ prog 31 [.t (txt s), .t (num i)] [] (.t (w32 (wrd s i))) [] [] := by
  refine a_body F.mix func31 (by rfl) ntmps31 ?_
  refine k_seq ?_
  refine k_region rfl ?_
  refine a_op ?_
  refine s_nil (r_false ?_)
  refine q_next ?_
  refine k_seq ?_
  refine k_region rfl ?_
  iterate 26 refine a_opd ?_
  refine s_nil (r_true (by kernel_rfl) ?_)
  refine q_next ?_
  refine k_ret ?_
  refine ⟨.inr rfl, a_ret [] (by rw [results31]) ?_ ?_ ?_⟩ <;> simp [-List.map_set, -List.map_replicate, -List.reduceReplicate, -List.map_map, -List.map_drop, -List.map_take, num, bol, txt, w8, w16, w32, w64, lst, cls, rowO, boxO, List.take_of_length_le, wrd, w32, show ((i : Int) + 2).toNat = i + 2 from by omega, show ((i : Int) + 3).toNat = i + 3 from by omega]

theorem refq_good (Γ : Gl) (l : List UInt32) (a b c d : Nat) (hl : l.length = 16) (ha : a < 16) (hb : b < 16) (hc : c < 16) (hd : d < 16) : Go.Ot.Good Γ prog 32 [.msl (.p 0) 0 16 1, .t (num a), .t (num b), .t (num c), .t (num d)] [boxO 60 (cls w32 l)] (.tup []) [some (boxO 60 (cls w32 (quarL l a b c d)))] [] := by
  refine a_body F.mix func32 (by rfl) ntmps32 ?_
  refine k_seq ?_
  refine k_region rfl ?_
  iterate 11 refine a_opd ?_
  refine s_nil (r_true (by kernel_rfl) ?_)
  refine q_next ?_
  refine k_seq ?_
  refine k_region rfl ?_
  iterate 11 refine a_opd ?_
  refine a_calld [] false (left_good Γ ((addL (l) a b).getD d 0 ^^^ (addL (l) a b).getD a 0) 16 (by omega)) ?_
  refine a_opd ?_
  refine a_opd ?_
  refine s_nil (r_true (by kernel_rfl) ?_)
  refine q_next ?_
  refine k_seq ?_
  refine k_region rfl ?_
  iterate 11 refine a_opd ?_
  refine s_nil (r_true (by kernel_rfl) ?_)
  refine q_next ?_
  refine k_seq ?_
  refine k_region rfl ?_
  iterate 11 refine a_opd ?_
  refine a_calld [] false (left_good Γ ((addL (turnL (addL (l) a b) a d 16) c d).getD b 0 ^^^ (addL (turnL (addL (l) a b) a d 16) c d).getD c 0) 12 (by omega)) ?_
  refine a_opd ?_
  refine a_opd ?_
  refine s_nil (r_true (by kernel_rfl) ?_)
  refine q_next ?_
  refine k_seq ?_
  refine k_region rfl ?_
  iterate 11 refine a_opd ?_
  refine s_nil (r_true (by kernel_rfl) ?_)
  refine q_next ?_
  refine k_seq ?_
  refine k_region rfl ?_
  iterate 11 refine a_opd ?_
  refine a_calld [] false (left_good Γ ((addL (turnL (addL (turnL (addL (l) a b) a d 16) c d) c b 12) a b).getD d 0 ^^^ (addL (turnL (addL (turnL (addL (l) a b) a d 16) c d) c b 12) a b).getD a 0) 8 (by omega)) ?_
  refine a_opd ?_
  refine a_opd ?_
  refine s_nil (r_true (by kernel_rfl) ?_)
  refine q_next ?_
  refine k_seq ?_
  refine k_region rfl ?_
  iterate 11 refine a_opd ?_
  refine s_nil (r_true (by kernel_rfl) ?_)
  refine q_next ?_
  refine k_region rfl ?_
  iterate 11 refine a_opd ?_
  refine a_calld [] false (left_good Γ ((addL (turnL (addL (turnL (addL (turnL (addL (l) a b) a d 16) c d) c b 12) a b) a d 8) c d).getD b 0 ^^^ (addL (turnL (addL (turnL (addL (turnL (addL (l) a b) a d 16) c d) c b 12) a b) a d 8) c d).getD c 0) 7 (by omega)) ?_
  refine a_opd ?_
  refine a_opd ?_
  refine s_nil (r_true (by kernel_rfl) ?_)
  refine ⟨.inl rfl, a_ret [(.p 0, .p 0)] (by rw [results32]) ?_ ?_ ?_⟩ <;> simp [-List.map_set, -List.map_replicate, -List.reduceReplicate, -List.map_map, -List.map_drop, -List.map_take, num, bol, txt, w8, w16, w32, w64, lst, cls, rowO, boxO, List.take_of_length_le, quarL, stepL]

end Go.Proofs.Try
