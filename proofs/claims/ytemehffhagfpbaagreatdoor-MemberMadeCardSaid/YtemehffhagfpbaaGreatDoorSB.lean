/- Contracts of this program's functions. -/
import Derived.Test.YtemehffhagfpbaaGreatDoorSA
set_option maxHeartbeats 4000000
set_option maxRecDepth 100000
set_option linter.unusedVariables false
set_option linter.unusedSimpArgs false
namespace Go.Proofs.Tryz
open Go Go.Ot
attribute [local irreducible] wpK wpS seqK blockK loopF regK meetK OpSpec Le
theorem roots_good (Γ : Gl)  : Go.Ot.Good Γ prog 53 [] [] (.agg (cls w32 H0)) [] [] := by
 refine a_body F.mix func53 (by rfl) ntmps53 ?_
 refine k_seq ?_
 refine k_region rfl ?_
 refine a_op ?_
 refine s_nil (r_false ?_)
 refine q_next ?_
 refine k_seq ?_
 refine k_region rfl ?_
 refine a_op ?_
 refine a_op ?_
 refine s_nil (r_false ?_)
 refine q_next ?_
 refine k_ret ?_
 refine ⟨.inr rfl, a_ret [] (by rw [results53]) ?_ ?_ ?_⟩ <;> simp [-List.map_set, -List.map_replicate, -List.reduceReplicate, -List.map_map, -List.map_drop, -List.map_take, num, bol, txt, w8, w16, w32, w64, lst, cls, rowO, boxO, List.take_of_length_le, H0]

theorem cubes_good (Γ : Gl)  : Go.Ot.Good Γ prog 54 [] [] (.agg (cls w32 K64)) [] [] := by
 refine a_body F.mix func54 (by rfl) ntmps54 ?_
 refine k_seq ?_
 refine k_region rfl ?_
 refine a_op ?_
 refine s_nil (r_false ?_)
 refine q_next ?_
 refine k_seq ?_
 refine k_region rfl ?_
 have hk := K64_len
 refine a_op (r := { val := .agg (cls w32 K64) }) (c := placesOk prog 94 = true) (hs := by kernel_rfl) ?_
 refine a_op ?_
 refine s_nil (r_false ?_)
 refine q_next ?_
 refine k_ret ?_
 refine ⟨.inr rfl, a_ret [] (by rw [results54]) ?_ ?_ ?_⟩ <;> simp [-List.map_set, -List.map_replicate, -List.reduceReplicate, -List.map_map, -List.map_drop, -List.map_take, num, bol, txt, w8, w16, w32, w64, lst, cls, rowO, boxO, List.take_of_length_le, show K64.take 64 = K64 from rfl]

end Go.Proofs.Tryz
