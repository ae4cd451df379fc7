/- Contracts of this program's functions. -/
import Derived.Test.YtemehffhagfpbaaGreatDoorSME7
set_option maxHeartbeats 4000000
set_option maxRecDepth 100000
set_option linter.unusedVariables false
set_option linter.unusedSimpArgs false
namespace Go.Proofs.Tryz
open Go Go.Ot
attribute [local irreducible] wpK wpS seqK blockK loopF regK meetK OpSpec Le rcF hsh inF chC mwB lkT fl
theorem check_good (Γ : Gl) (log : List Rc) (hl : log.length ≤ 1000000) (hw : ∀ j, (log.getD j default).wraps.length ≤ 9223372036854775807)  : Go.Ot.Good Γ prog 7 [.t (.sl log.length (log.flatMap rcT))] [] (.t (bol (ckB log))) [] [] := by
 refine a_body F.mix func7 (by rfl) ntmps7 ?_
 refine k_seq ?_
 refine k_region rfl ?_
 refine a_op ?_
 refine s_nil (r_false ?_)
 refine q_next ?_
 refine k_seq ?_
 refine k_seq ?_
 refine k_region rfl ?_
 iterate 3 refine a_op ?_
 refine s_nil (r_false ?_)
 refine q_next ?_
 refine a_if (fun hc0 => ?_) (fun hc0 => ?_)
 ·(try simp only [Bool.and_eq_true, Bool.or_eq_true, Bool.or_eq_false_iff, Bool.not_eq_true', Bool.not_eq_false', dec_t, dec_f, Bool.and_eq_false_imp, beq_iff_eq, beq_eq_false_iff_ne, ne_eq] at hc0)
  have hq := ckB_long (log := log) (by omega)
  refine k_seq ?_
  refine k_region rfl ?_
  refine a_op ?_
  refine s_nil (r_false ?_)
  refine q_next ?_
  refine k_ret ?_
  refine q_seq_ret ?_
  refine ⟨.inr rfl, a_ret [] (by rw [results7]) ?_ ?_ ?_⟩ <;> simp [-List.map_set, -List.map_replicate, -List.reduceReplicate, -List.map_map, -List.map_drop, -List.map_take, num, bol, txt, w8, w16, w32, w64, lst, cls, rowO, boxO, List.take_of_length_le, Wr.cellsL_len, wA, Wr.k_mk, Wr.n_mk, Wr.s_mk, Wr.l_mk, Wr.cellsL, Wr.z_eq, rcT, wpT, hq]
 ·(try simp only [Bool.and_eq_true, Bool.or_eq_true, Bool.or_eq_false_iff, Bool.not_eq_true', Bool.not_eq_false', dec_t, dec_f, Bool.and_eq_false_imp, beq_iff_eq, beq_eq_false_iff_ne, ne_eq] at hc0)
  refine k_skip ?_
  refine q_next ?_
  refine k_seq ?_
  refine k_region rfl ?_
  refine a_op ?_
  refine s_nil (r_false ?_)
  refine q_next ?_
  refine k_seq ?_
  refine k_seq ?_
  refine k_region rfl ?_
  iterate 3 refine a_op ?_
  refine s_nil (r_false ?_)
  refine q_next ?_
  refine k_block ?_
  refine k_loopF (fun sl L (i : Nat) => ⟨setAll (setBad sl [2, 4, 5, 6, 7, 8, 9, 13, 14, 15, 16, 17, 18, 19, 20, 21, 22, 23, 24, 25, 26, 27, 28, 29, 30, 31, 32, 33, 34, 35, 36, 37, 38, 39, 40, 41, 42, 43, 44, 45]) [(12, .t (num i)), (3, .msl (.n 9) 0 (inF log i).length 1)], Go.Ot.look (putL (.n 9) (rowO 3 num (inF log i)) L)⟩) (fun i => i ≤ log.length ∧ ∀ j, j < i → chC log (inF log j) j = 0) (fun i => log.length - i) (0) (a_le ?_) ?_ ?_
  ·refine le_of [] ?_ ?_ ?_ <;> simp [-List.map_set, -List.map_replicate, -List.reduceReplicate, -List.map_map, -List.map_drop, -List.map_take, num, bol, txt, w8, w16, w32, w64, lst, cls, rowO, boxO, List.take_of_length_le, Wr.cellsL_len, wA, Wr.k_mk, Wr.n_mk, Wr.s_mk, Wr.l_mk, Wr.cellsL, Wr.z_eq, rcT, wpT, inF_0]
  ·exact ⟨Nat.zero_le _, fun j hj => by omega⟩
  ·rintro i ⟨hi, hI⟩
   refine a_st ?_
   refine k_seq ?_
   refine k_region rfl ?_
   refine a_op ?_
   refine s_nil (r_false ?_)
   refine q_next ?_
   refine k_seq ?_
   refine a_if (fun hc1 => ?_) (fun hc1 => ?_)
   ·(try simp only [Bool.and_eq_true, Bool.or_eq_true, Bool.or_eq_false_iff, Bool.not_eq_true', Bool.not_eq_false', dec_t, dec_f, Bool.and_eq_false_imp, beq_iff_eq, beq_eq_false_iff_ne, ne_eq] at hc1)
    refine k_skip ?_
    refine q_next ?_
    refine k_seq ?_
    refine k_block ?_
    refine k_seq ?_
    refine k_region rfl ?_
    iterate 3 refine a_op ?_
    obtain ⟨r, hr⟩ : ∃ r, log.getD i default = r := ⟨_, rfl⟩
    simp only [hr]
    iterate 3 refine a_op ?_
    refine s_nil (r_false ?_)
    refine q_next ?_
    refine k_seq ?_
    refine k_region rfl ?_
    have hil := inF_len log i
    have hcc := chC_cases log (inF log i) i
    rcases hcc with hcc | hcc | hcc | hcc
    ·have hok := chC_ok hcc
     iterate 3 refine a_op ?_
     refine a_call [.n 9] false ((by have h := chd_good Γ log (inF log i) i (by omega) (by omega) hl hw; rw [hcc] at h; exact h)) ?_
     refine a_op ?_
     refine s_nil (r_false ?_)
     refine q_next ?_
     refine k_seq ?_
     refine k_seq ?_
     refine k_region rfl ?_
     refine a_op ?_
     refine a_op ?_
     refine a_call [] false (mb_isnil_good Γ [110, 111, 32, 114, 101, 99, 111, 114, 100]) ?_
     refine a_op ?_
     refine a_go ?_
     refine a_go ?_
     refine a_callgo [] false (mb_isnil_good Γ [97, 110, 111, 116, 104, 101, 114, 32, 114, 101, 99, 111, 114, 100, 32, 97, 104, 101, 97, 100]) ?_
     refine a_op ?_
     refine a_op ?_
     refine a_go ?_
     refine a_go ?_
     refine a_callgo [] false (mb_isnil_good Γ [97, 32, 109, 101, 109, 98, 101, 114, 32, 116, 104, 97, 116, 32, 105, 115, 32, 110, 111, 110, 101, 44, 32, 111, 114, 32, 110, 111, 110, 101, 32, 116, 104, 97, 116, 32, 105, 115, 32, 111, 110, 101]) ?_
     refine a_op ?_
     refine s_nil (r_false ?_)
     refine q_next ?_
     refine a_false ?_
     refine k_skip ?_
     refine q_next ?_
     refine k_seq ?_
     refine k_region rfl ?_
     iterate 3 refine a_op ?_
     refine s_nil (r_false ?_)
     refine q_next ?_
     refine a_if (fun hc3 => ?_) (fun hc3 => ?_)
     ·(try simp only [Bool.and_eq_true, Bool.or_eq_true, Bool.or_eq_false_iff, Bool.not_eq_true', Bool.not_eq_false', dec_t, dec_f, Bool.and_eq_false_imp, beq_iff_eq, beq_eq_false_iff_ne, ne_eq] at hc3)
      have hk1 : r.kind = 1 := by simpa using hc3
      have hn := inF_add (log := log) (i := i) (by rw [hr]; exact hk1)
      rw [hr] at hn
      refine k_region rfl ?_
      iterate 6 refine a_op ?_
      refine s_nil (r_false ?_)
      refine q_block (q_next ?_)
      refine k_region rfl ?_
      refine a_op ?_
      refine a_op ?_
      refine s_nil (r_false ?_)
      refine q_loopF (i + 1) (a_le ?_) ?_ ?_
      ·refine le_of [(.n 9, .n 9)] ?_ ?_ ?_ <;> simp [-List.map_set, -List.map_replicate, -List.reduceReplicate, -List.map_map, -List.map_drop, -List.map_take, num, bol, txt, w8, w16, w32, w64, lst, cls, rowO, boxO, List.take_of_length_le, Wr.cellsL_len, wA, Wr.k_mk, Wr.n_mk, Wr.s_mk, Wr.l_mk, Wr.cellsL, Wr.z_eq, rcT, wpT, hn]
      ·exact ⟨by omega, fun j hj => by rcases (show j = i ∨ j < i by omega) with e | e; (subst e; exact hcc); exact hI j e⟩
      ·(first | omega | (simp only []; omega))
     ·(try simp only [Bool.and_eq_true, Bool.or_eq_true, Bool.or_eq_false_iff, Bool.not_eq_true', Bool.not_eq_false', dec_t, dec_f, Bool.and_eq_false_imp, beq_iff_eq, beq_eq_false_iff_ne, ne_eq] at hc3)
      have hk1 : r.kind ≠ 1 := by simpa using hc3
      have hn := inF_del (log := log) (i := i) (by rw [hr]; exact hk1)
      rw [hr] at hn
      have hk2 : r.kind = 2 := by have := hok.1.2.2.2.1; rw [hr] at this; rcases this with h | h; exact absurd h hk1; exact h
      have hmem : r.dev ∈ inF log i := by
       have h3 := hok.2.2
       rw [hr] at h3
       rcases e : (inF log i).contains r.dev with _ | _
       ·exact absurd (.inr (.inr (by rw [e, hk2]; decide))) h3
       ·exact List.contains_iff_mem.1 e
      obtain ⟨k, ⟨hk, hx⟩, hb⟩ := least_of (p := fun k => k < (inF log i).length ∧ (inF log i).getD k 0 = r.dev) (by
       obtain ⟨k, hk, e⟩ := List.mem_iff_getElem.1 hmem
       exact ⟨k, hk, by simp only [List.getD_eq_getElem?_getD, List.getElem?_eq_getElem hk, Option.getD_some]; exact e⟩)
      refine k_region rfl ?_
      refine a_op ?_
      refine a_op ?_
      refine a_callp [.n 9] [.r 6 3 0] [.n 9] false (del_good Γ (inF log i) r k (by omega) hk hx (fun j hj e => hb j hj ⟨by omega, e⟩)) ?_
      refine a_op ?_
      refine s_nil (r_false ?_)
      refine q_block (q_next ?_)
      refine k_region rfl ?_
      refine a_op ?_
      refine a_op ?_
      refine s_nil (r_false ?_)
      refine q_loopF (i + 1) (a_le ?_) ?_ ?_
      ·refine le_of [(.n 9, .n 9)] ?_ ?_ ?_ <;> simp [-List.map_set, -List.map_replicate, -List.reduceReplicate, -List.map_map, -List.map_drop, -List.map_take, num, bol, txt, w8, w16, w32, w64, lst, cls, rowO, boxO, List.take_of_length_le, Wr.cellsL_len, wA, Wr.k_mk, Wr.n_mk, Wr.s_mk, Wr.l_mk, Wr.cellsL, Wr.z_eq, rcT, wpT, hn]
      ·exact ⟨by omega, fun j hj => by rcases (show j = i ∨ j < i by omega) with e | e; (subst e; exact hcc); exact hI j e⟩
      ·(first | omega | (simp only []; omega))
    ·have hq := ckB_no (log := log) (i := i) (by omega) (by rw [hcc]; decide)
     iterate 3 refine a_op ?_
     refine a_call [.n 9] false ((by have h := chd_good Γ log (inF log i) i (by omega) (by omega) hl hw; rw [hcc] at h; exact h)) ?_
     refine a_op ?_
     refine s_nil (r_false ?_)
     refine q_next ?_
     refine k_seq ?_
     refine k_seq ?_
     refine k_region rfl ?_
     refine a_op ?_
     refine a_op ?_
     refine a_call [] false (mb_is_good Γ i [110, 111, 32, 114, 101, 99, 111, 114, 100] [110, 111, 32, 114, 101, 99, 111, 114, 100] true mb_eq_ff) ?_
     refine a_op ?_
     refine a_no ?_
     refine a_no ?_
     refine a_no ?_
     refine a_op ?_
     refine a_op ?_
     refine a_no ?_
     refine a_no ?_
     refine a_no ?_
     refine a_op ?_
     refine s_nil (r_false ?_)
     refine q_next ?_
     refine a_true ?_
     refine k_seq ?_
     refine k_region rfl ?_
     refine a_op ?_
     refine s_nil (r_false ?_)
     refine q_next ?_
     refine k_ret ?_
     refine q_seq_ret (q_block_ret (q_seq_ret (q_loopF_ret (q_block_ret (q_seq_ret ?_)))))
     refine ⟨.inr rfl, a_ret [] (by rw [results7]) ?_ ?_ ?_⟩ <;> simp [-List.map_set, -List.map_replicate, -List.reduceReplicate, -List.map_map, -List.map_drop, -List.map_take, num, bol, txt, w8, w16, w32, w64, lst, cls, rowO, boxO, List.take_of_length_le, Wr.cellsL_len, wA, Wr.k_mk, Wr.n_mk, Wr.s_mk, Wr.l_mk, Wr.cellsL, Wr.z_eq, rcT, wpT, hq]
    ·have hq := ckB_no (log := log) (i := i) (by omega) (by rw [hcc]; decide)
     iterate 3 refine a_op ?_
     refine a_call [.n 9] false ((by have h := chd_good Γ log (inF log i) i (by omega) (by omega) hl hw; rw [hcc] at h; exact h)) ?_
     refine a_op ?_
     refine s_nil (r_false ?_)
     refine q_next ?_
     refine k_seq ?_
     refine k_seq ?_
     refine k_region rfl ?_
     refine a_op ?_
     refine a_op ?_
     refine a_call [] false (mb_is_good Γ i [97, 110, 111, 116, 104, 101, 114, 32, 114, 101, 99, 111, 114, 100, 32, 97, 104, 101, 97, 100] [110, 111, 32, 114, 101, 99, 111, 114, 100] false mb_eq_lf) ?_
     refine a_op ?_
     refine a_go ?_
     refine a_go ?_
     refine a_callgo [] false (mb_is_good Γ i [97, 110, 111, 116, 104, 101, 114, 32, 114, 101, 99, 111, 114, 100, 32, 97, 104, 101, 97, 100] [97, 110, 111, 116, 104, 101, 114, 32, 114, 101, 99, 111, 114, 100, 32, 97, 104, 101, 97, 100] true mb_eq_ll) ?_
     refine a_op ?_
     refine a_op ?_
     refine a_no ?_
     refine a_no ?_
     refine a_no ?_
     refine a_op ?_
     refine s_nil (r_false ?_)
     refine q_next ?_
     refine a_true ?_
     refine k_seq ?_
     refine k_region rfl ?_
     refine a_op ?_
     refine s_nil (r_false ?_)
     refine q_next ?_
     refine k_ret ?_
     refine q_seq_ret (q_block_ret (q_seq_ret (q_loopF_ret (q_block_ret (q_seq_ret ?_)))))
     refine ⟨.inr rfl, a_ret [] (by rw [results7]) ?_ ?_ ?_⟩ <;> simp [-List.map_set, -List.map_replicate, -List.reduceReplicate, -List.map_map, -List.map_drop, -List.map_take, num, bol, txt, w8, w16, w32, w64, lst, cls, rowO, boxO, List.take_of_length_le, Wr.cellsL_len, wA, Wr.k_mk, Wr.n_mk, Wr.s_mk, Wr.l_mk, Wr.cellsL, Wr.z_eq, rcT, wpT, hq]
    ·have hq := ckB_no (log := log) (i := i) (by omega) (by rw [hcc]; decide)
     iterate 3 refine a_op ?_
     refine a_call [.n 9] false ((by have h := chd_good Γ log (inF log i) i (by omega) (by omega) hl hw; rw [hcc] at h; exact h)) ?_
     refine a_op ?_
     refine s_nil (r_false ?_)
     refine q_next ?_
     refine k_seq ?_
     refine k_seq ?_
     refine k_region rfl ?_
     refine a_op ?_
     refine a_op ?_
     refine a_call [] false (mb_is_good Γ i [97, 32, 109, 101, 109, 98, 101, 114, 32, 116, 104, 97, 116, 32, 105, 115, 32, 110, 111, 110, 101, 44, 32, 111, 114, 32, 110, 111, 110, 101, 32, 116, 104, 97, 116, 32, 105, 115, 32, 111, 110, 101] [110, 111, 32, 114, 101, 99, 111, 114, 100] false mb_eq_rf) ?_
     refine a_op ?_
     refine a_go ?_
     refine a_go ?_
     refine a_callgo [] false (mb_is_good Γ i [97, 32, 109, 101, 109, 98, 101, 114, 32, 116, 104, 97, 116, 32, 105, 115, 32, 110, 111, 110, 101, 44, 32, 111, 114, 32, 110, 111, 110, 101, 32, 116, 104, 97, 116, 32, 105, 115, 32, 111, 110, 101] [97, 110, 111, 116, 104, 101, 114, 32, 114, 101, 99, 111, 114, 100, 32, 97, 104, 101, 97, 100] false mb_eq_rl) ?_
     refine a_op ?_
     refine a_op ?_
     refine a_go ?_
     refine a_go ?_
     refine a_callgo [] false (mb_is_good Γ i [97, 32, 109, 101, 109, 98, 101, 114, 32, 116, 104, 97, 116, 32, 105, 115, 32, 110, 111, 110, 101, 44, 32, 111, 114, 32, 110, 111, 110, 101, 32, 116, 104, 97, 116, 32, 105, 115, 32, 111, 110, 101] [97, 32, 109, 101, 109, 98, 101, 114, 32, 116, 104, 97, 116, 32, 105, 115, 32, 110, 111, 110, 101, 44, 32, 111, 114, 32, 110, 111, 110, 101, 32, 116, 104, 97, 116, 32, 105, 115, 32, 111, 110, 101] true mb_eq_rr) ?_
     refine a_op ?_
     refine s_nil (r_false ?_)
     refine q_next ?_
     refine a_true ?_
     refine k_seq ?_
     refine k_region rfl ?_
     refine a_op ?_
     refine s_nil (r_false ?_)
     refine q_next ?_
     refine k_ret ?_
     refine q_seq_ret (q_block_ret (q_seq_ret (q_loopF_ret (q_block_ret (q_seq_ret ?_)))))
     refine ⟨.inr rfl, a_ret [] (by rw [results7]) ?_ ?_ ?_⟩ <;> simp [-List.map_set, -List.map_replicate, -List.reduceReplicate, -List.map_map, -List.map_drop, -List.map_take, num, bol, txt, w8, w16, w32, w64, lst, cls, rowO, boxO, List.take_of_length_le, Wr.cellsL_len, wA, Wr.k_mk, Wr.n_mk, Wr.s_mk, Wr.l_mk, Wr.cellsL, Wr.z_eq, rcT, wpT, hq]
   ·(try simp only [Bool.and_eq_true, Bool.or_eq_true, Bool.or_eq_false_iff, Bool.not_eq_true', Bool.not_eq_false', dec_t, dec_f, Bool.and_eq_false_imp, beq_iff_eq, beq_eq_false_iff_ne, ne_eq] at hc1)
    refine k_exit ?_
    refine q_seq_exit (q_loopF_exit (q_block_exit (q_next ?_)))
    refine k_seq ?_
    refine k_region rfl ?_
    have hq := ckB_yes (log := log) (by omega) (fun j hj => hI j (by omega))
    refine a_op ?_
    refine s_nil (r_false ?_)
    refine q_next ?_
    refine k_ret ?_
    refine ⟨.inr rfl, a_ret [] (by rw [results7]) ?_ ?_ ?_⟩ <;> simp [-List.map_set, -List.map_replicate, -List.reduceReplicate, -List.map_map, -List.map_drop, -List.map_take, num, bol, txt, w8, w16, w32, w64, lst, cls, rowO, boxO, List.take_of_length_le, Wr.cellsL_len, wA, Wr.k_mk, Wr.n_mk, Wr.s_mk, Wr.l_mk, Wr.cellsL, Wr.z_eq, rcT, wpT, hq]

end Go.Proofs.Tryz
