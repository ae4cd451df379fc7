/- Contracts of this program's functions. -/
import Derived.Test.YtemehffhagfpbaaGreatDoorSME5
import Derived.Test.YtemehffhagfpbaaGreatDoorSME6
set_option maxHeartbeats 4000000
set_option maxRecDepth 100000
set_option linter.unusedVariables false
set_option linter.unusedSimpArgs false
namespace Go.Proofs.Tryz
open Go Go.Ot
attribute [local irreducible] wpK wpS seqK blockK loopF regK meetK OpSpec Le rcF hsh inF chC mwB lkT
theorem chd_0 (Γ : Gl) (log : List Rc) (l : List Int) (i : Nat) (hz : i = 0) (hi : i < log.length) (hln : l.length ≤ 1000000) (hl : log.length ≤ 1000000) (hw : ∀ j, (log.getD j default).wraps.length ≤ 9223372036854775807)  : Go.Ot.Good Γ prog 16 [.t (.sl log.length (log.flatMap rcT)), .t (num i), .t (lst num l)] [] (.t (lkT i (chC log l i))) [] [] := by
 have hpv : prevF log i = [] := by rw [hz]; rfl
 refine a_body F.mix func16 (by rfl) ntmps16 ?_
 refine k_seq ?_
 refine k_region rfl ?_
 refine a_op ?_
 refine s_nil (r_false ?_)
 refine q_next ?_
 refine k_seq ?_
 refine k_region rfl ?_
 iterate 4 refine a_op ?_
 obtain ⟨r, hr⟩ : ∃ r, log.getD i default = r := ⟨_, rfl⟩
 simp only [hr]
 have hwr := hw i
 rw [hr] at hwr
 refine a_op ?_
 refine a_op ?_
 refine s_nil (r_false ?_)
 refine q_next ?_
 refine k_seq ?_
 refine k_region rfl ?_
 refine a_op ?_
 refine s_nil (r_false ?_)
 refine q_next ?_
 refine k_seq ?_
 refine k_seq ?_
 refine k_region rfl ?_
 refine a_op ?_
 refine a_op ?_
 refine s_nil (r_false ?_)
 refine q_next ?_
 refine a_false ?_
 refine k_skip ?_
 refine q_next ?_
 refine k_seq ?_
 refine k_region rfl ?_
 iterate 3 refine a_op ?_
 refine a_call [] false (cnt_good Γ l r.dev hln) ?_
 refine a_op ?_
 refine s_nil (r_false ?_)
 refine q_next ?_
 refine k_seq ?_
 refine k_block ?_
 refine k_seq ?_
 refine k_region rfl ?_
 rcases Classical.em (¬ rcP r) with hp | hp
 rotate_left 1
 have hp := Classical.not_not.1 hp
 rotate_left 1
 ·have hq := chC_1 (l := l) hr hp
  refine a_op ?_
  refine a_call [] false ((by have h := rmay_good Γ r hwr; rw [rcB_f hp] at h; exact h)) ?_
  refine a_op ?_
  refine a_op ?_
  refine s_nil (r_false ?_)
  refine q_next ?_
  refine a_true ?_
  refine k_seq ?_
  refine k_region rfl ?_
  iterate 5 refine a_op ?_
  refine s_nil (r_false ?_)
  refine q_next ?_
  refine k_ret ?_
  refine q_block_ret (q_seq_ret ?_)
  refine ⟨.inr rfl, a_ret [] (by rw [results16]) ?_ ?_ ?_⟩ <;> simp [-List.map_set, -List.map_replicate, -List.reduceReplicate, -List.map_map, -List.map_drop, -List.map_take, num, bol, txt, w8, w16, w32, w64, lst, cls, rowO, boxO, List.take_of_length_le, Wr.cellsL_len, wA, Wr.k_mk, Wr.n_mk, Wr.s_mk, Wr.l_mk, Wr.cellsL, Wr.z_eq, rcT, wpT, hq, lkT_0, lkT_1, lkT_2, lkT_3]
 ·skip
  refine a_op ?_
  refine a_call [] false ((by have h := rmay_good Γ r hwr; rw [rcB_t hp] at h; exact h)) ?_
  refine a_op ?_
  refine a_op ?_
  refine s_nil (r_false ?_)
  refine q_next ?_
  refine a_false ?_
  refine k_seq ?_
  refine k_region rfl ?_
  have hkd : r.kind = 1 ∨ r.kind = 2 := hp.2.2.2.1
  have h8 : (¬ r.seq = ((i : Int) + 1)) ∨ (r.seq = ((i : Int) + 1) ∧ (r.prev == []) = false) ∨ (r.seq = ((i : Int) + 1) ∧ (r.prev == []) = true ∧ ((r.kind = 1 ∧ r.dev = 0 ∧ l.contains r.dev = true) ∨ (r.kind = 1 ∧ r.dev = 0 ∧ l.contains r.dev = false) ∨ (r.kind = 1 ∧ ¬ r.dev = 0 ∧ l.contains r.dev = true) ∨ (r.kind = 1 ∧ ¬ r.dev = 0 ∧ l.contains r.dev = false) ∨ (r.kind = 2 ∧ r.dev = 0 ∧ l.contains r.dev = true) ∨ (r.kind = 2 ∧ r.dev = 0 ∧ l.contains r.dev = false) ∨ (r.kind = 2 ∧ ¬ r.dev = 0 ∧ l.contains r.dev = true) ∨ (r.kind = 2 ∧ ¬ r.dev = 0 ∧ l.contains r.dev = false))) := by
   by_cases hs : r.seq = ((i : Int) + 1)
   ·rcases hv : (r.prev == []) with _ | _
    ·exact .inr (.inl ⟨hs, rfl⟩)
    ·refine .inr (.inr ⟨hs, rfl, ?_⟩)
     rcases hkd with h1 | h1
     ·by_cases h2 : r.dev = 0
      ·rcases h3 : l.contains r.dev with _ | _
       ·exact .inr (.inl (⟨h1, h2, rfl⟩))
       ·exact .inl (⟨h1, h2, rfl⟩)
      ·rcases h3 : l.contains r.dev with _ | _
       ·exact .inr (.inr (.inr (.inl (⟨h1, h2, rfl⟩))))
       ·exact .inr (.inr (.inl (⟨h1, h2, rfl⟩)))
     ·by_cases h2 : r.dev = 0
      ·rcases h3 : l.contains r.dev with _ | _
       ·exact .inr (.inr (.inr (.inr (.inr (.inl (⟨h1, h2, rfl⟩))))))
       ·exact .inr (.inr (.inr (.inr (.inl (⟨h1, h2, rfl⟩)))))
      ·rcases h3 : l.contains r.dev with _ | _
       ·exact .inr (.inr (.inr (.inr (.inr (.inr (.inr (⟨h1, h2, rfl⟩)))))))
       ·exact .inr (.inr (.inr (.inr (.inr (.inr (.inl (⟨h1, h2, rfl⟩)))))))
   ·exact .inl hs
  rcases h8 with hs | ⟨hs, hv⟩ | ⟨hs, hv, ⟨q1, q2, q3⟩ | ⟨q1, q2, q3⟩ | ⟨q1, q2, q3⟩ | ⟨q1, q2, q3⟩ | ⟨q1, q2, q3⟩ | ⟨q1, q2, q3⟩ | ⟨q1, q2, q3⟩ | ⟨q1, q2, q3⟩⟩
  ·have hq := chC_2 (l := l) hr hp (fun h => hs h.1)
   iterate 4 refine a_op ?_
   refine a_op (hs := by (simp (disch := omega) only [push_cast, reduceCtorEq, hs] <;> rfl)) ?_
   refine a_op ?_
   refine a_no ?_
   refine a_no ?_
   refine a_no ?_
   refine a_no ?_
   refine a_op ?_
   refine a_op ?_
   refine s_nil (r_false ?_)
   refine q_next ?_
   refine a_true ?_
   refine k_seq ?_
   refine k_region rfl ?_
   iterate 5 refine a_op ?_
   refine s_nil (r_false ?_)
   refine q_next ?_
   refine k_ret ?_
   refine q_block_ret (q_seq_ret ?_)
   refine ⟨.inr rfl, a_ret [] (by rw [results16]) ?_ ?_ ?_⟩ <;> simp [-List.map_set, -List.map_replicate, -List.reduceReplicate, -List.map_map, -List.map_drop, -List.map_take, num, bol, txt, w8, w16, w32, w64, lst, cls, rowO, boxO, List.take_of_length_le, Wr.cellsL_len, wA, Wr.k_mk, Wr.n_mk, Wr.s_mk, Wr.l_mk, Wr.cellsL, Wr.z_eq, rcT, wpT, hq, lkT_0, lkT_1, lkT_2, lkT_3]
  ·have hv' : ¬ r.prev = [] := fun e => by rw [e] at hv; simp at hv
   have hq := chC_2 (l := l) hr hp (fun h => hv' (by rw [← hpv]; exact h.2))
   iterate 4 refine a_op ?_
   refine a_op (hs := by (simp (disch := omega) only [push_cast, reduceCtorEq, hs] <;> rfl)) ?_
   refine a_op ?_
   refine a_go ?_
   refine a_go ?_
   refine a_go ?_
   refine a_go (hs := by (simp (disch := omega) only [push_cast, reduceCtorEq, hv] <;> rfl)) ?_
   refine a_op ?_
   refine a_op ?_
   refine s_nil (r_false ?_)
   refine q_next ?_
   refine a_true ?_
   refine k_seq ?_
   refine k_region rfl ?_
   iterate 5 refine a_op ?_
   refine s_nil (r_false ?_)
   refine q_next ?_
   refine k_ret ?_
   refine q_block_ret (q_seq_ret ?_)
   refine ⟨.inr rfl, a_ret [] (by rw [results16]) ?_ ?_ ?_⟩ <;> simp [-List.map_set, -List.map_replicate, -List.reduceReplicate, -List.map_map, -List.map_drop, -List.map_take, num, bol, txt, w8, w16, w32, w64, lst, cls, rowO, boxO, List.take_of_length_le, Wr.cellsL_len, wA, Wr.k_mk, Wr.n_mk, Wr.s_mk, Wr.l_mk, Wr.cellsL, Wr.z_eq, rcT, wpT, hq, lkT_0, lkT_1, lkT_2, lkT_3]
  ·have hq := chC_3 (l := l) hr hp ⟨hs, by rw [hpv]; simpa using hv⟩ (by refine .inr (.inr ?_); rw [q3, q1]; decide)
   iterate 4 refine a_op ?_
   refine a_op (hs := by (simp (disch := omega) only [push_cast, reduceCtorEq, hs] <;> rfl)) ?_
   refine a_op ?_
   refine a_go ?_
   refine a_go ?_
   refine a_go ?_
   refine a_go (hs := by (simp (disch := omega) only [push_cast, reduceCtorEq, hv] <;> rfl)) ?_
   refine a_op ?_
   refine a_op ?_
   refine s_nil (r_false ?_)
   refine q_next ?_
   refine a_false ?_
   refine k_seq ?_
   refine k_region rfl ?_
   iterate 3 refine a_op ?_
   refine a_go ?_
   refine a_go ?_
   refine a_go (hs := by (simp (disch := omega) only [push_cast, reduceCtorEq, q1] <;> rfl)) ?_
   refine a_go ?_
   refine a_go ?_
   refine a_go ?_
   refine a_go (hs := by (simp (disch := omega) only [push_cast, reduceCtorEq, q2] <;> rfl)) ?_
   refine a_go ?_
   refine a_op ?_
   refine a_op ?_
   refine a_go ?_
   refine a_go ?_
   refine a_go (hs := by (simp (disch := omega) only [push_cast, reduceCtorEq, q1] <;> rfl)) ?_
   refine a_go ?_
   refine a_no ?_
   refine a_no ?_
   refine a_no ?_
   refine a_go ?_
   refine a_op ?_
   refine a_op ?_
   refine a_go ?_
   refine a_go ?_
   refine a_go ?_
   refine a_go (hs := by (simp (disch := omega) only [push_cast, reduceCtorEq, q1] <;> rfl)) ?_
   refine a_go (hs := by (simp (disch := omega) only [push_cast, reduceCtorEq, q3] <;> rfl)) ?_
   refine a_op ?_
   refine a_op ?_
   refine s_nil (r_false ?_)
   refine q_next ?_
   refine a_true ?_
   refine k_seq ?_
   refine k_region rfl ?_
   iterate 5 refine a_op ?_
   refine s_nil (r_false ?_)
   refine q_next ?_
   refine k_ret ?_
   refine q_block_ret (q_seq_ret ?_)
   refine ⟨.inr rfl, a_ret [] (by rw [results16]) ?_ ?_ ?_⟩ <;> simp [-List.map_set, -List.map_replicate, -List.reduceReplicate, -List.map_map, -List.map_drop, -List.map_take, num, bol, txt, w8, w16, w32, w64, lst, cls, rowO, boxO, List.take_of_length_le, Wr.cellsL_len, wA, Wr.k_mk, Wr.n_mk, Wr.s_mk, Wr.l_mk, Wr.cellsL, Wr.z_eq, rcT, wpT, hq, lkT_0, lkT_1, lkT_2, lkT_3]
  ·have hq := chC_0 (l := l) hr hp ⟨hs, by rw [hpv]; simpa using hv⟩ (by rintro (⟨h, h'⟩ | ⟨h, h'⟩ | h) <;> first | omega | (rw [q3, q1] at h; exact h (by decide)))
   iterate 4 refine a_op ?_
   refine a_op (hs := by (simp (disch := omega) only [push_cast, reduceCtorEq, hs] <;> rfl)) ?_
   refine a_op ?_
   refine a_go ?_
   refine a_go ?_
   refine a_go ?_
   refine a_go (hs := by (simp (disch := omega) only [push_cast, reduceCtorEq, hv] <;> rfl)) ?_
   refine a_op ?_
   refine a_op ?_
   refine s_nil (r_false ?_)
   refine q_next ?_
   refine a_false ?_
   refine k_seq ?_
   refine k_region rfl ?_
   iterate 3 refine a_op ?_
   refine a_go ?_
   refine a_go ?_
   refine a_go (hs := by (simp (disch := omega) only [push_cast, reduceCtorEq, q1] <;> rfl)) ?_
   refine a_go ?_
   refine a_go ?_
   refine a_go ?_
   refine a_go (hs := by (simp (disch := omega) only [push_cast, reduceCtorEq, q2] <;> rfl)) ?_
   refine a_go ?_
   refine a_op ?_
   refine a_op ?_
   refine a_go ?_
   refine a_go ?_
   refine a_go (hs := by (simp (disch := omega) only [push_cast, reduceCtorEq, q1] <;> rfl)) ?_
   refine a_go ?_
   refine a_no ?_
   refine a_no ?_
   refine a_no ?_
   refine a_go ?_
   refine a_op ?_
   refine a_op ?_
   refine a_go ?_
   refine a_go ?_
   refine a_go ?_
   refine a_go (hs := by (simp (disch := omega) only [push_cast, reduceCtorEq, q1] <;> rfl)) ?_
   refine a_go (hs := by (simp (disch := omega) only [push_cast, reduceCtorEq, q3] <;> rfl)) ?_
   refine a_op ?_
   refine a_op ?_
   refine s_nil (r_false ?_)
   refine q_next ?_
   refine a_false ?_
   refine k_skip ?_
   refine q_block (q_next ?_)
   refine k_seq ?_
   refine k_region rfl ?_
   refine a_op ?_
   refine s_nil (r_false ?_)
   refine q_next ?_
   refine k_ret ?_
   refine ⟨.inr rfl, a_ret [] (by rw [results16]) ?_ ?_ ?_⟩ <;> simp [-List.map_set, -List.map_replicate, -List.reduceReplicate, -List.map_map, -List.map_drop, -List.map_take, num, bol, txt, w8, w16, w32, w64, lst, cls, rowO, boxO, List.take_of_length_le, Wr.cellsL_len, wA, Wr.k_mk, Wr.n_mk, Wr.s_mk, Wr.l_mk, Wr.cellsL, Wr.z_eq, rcT, wpT, hq, lkT_0, lkT_1, lkT_2, lkT_3]
  ·have hq := chC_3 (l := l) hr hp ⟨hs, by rw [hpv]; simpa using hv⟩ (by exact .inl ⟨hz, .inr (by omega)⟩)
   have q2' : ¬ r.dev = 0 := q2
   iterate 4 refine a_op ?_
   refine a_op (hs := by (simp (disch := omega) only [push_cast, reduceCtorEq, hs] <;> rfl)) ?_
   refine a_op ?_
   refine a_go ?_
   refine a_go ?_
   refine a_go ?_
   refine a_go (hs := by (simp (disch := omega) only [push_cast, reduceCtorEq, hv] <;> rfl)) ?_
   refine a_op ?_
   refine a_op ?_
   refine s_nil (r_false ?_)
   refine q_next ?_
   refine a_false ?_
   refine k_seq ?_
   refine k_region rfl ?_
   iterate 3 refine a_op ?_
   refine a_go ?_
   refine a_go ?_
   refine a_go (hs := by (simp (disch := omega) only [push_cast, reduceCtorEq, q1] <;> rfl)) ?_
   refine a_go ?_
   refine a_go ?_
   refine a_go ?_
   refine a_go (hs := by (simp (disch := omega) only [push_cast, reduceCtorEq, q2'] <;> rfl)) ?_
   refine a_go ?_
   refine a_op ?_
   refine a_op ?_
   refine a_no ?_
   refine a_no ?_
   refine a_no ?_
   refine a_no ?_
   refine a_no ?_
   refine a_no ?_
   refine a_no ?_
   refine a_no ?_
   refine a_op ?_
   refine a_op ?_
   refine a_no ?_
   refine a_no ?_
   refine a_no ?_
   refine a_no ?_
   refine a_no ?_
   refine a_op ?_
   refine a_op ?_
   refine s_nil (r_false ?_)
   refine q_next ?_
   refine a_true ?_
   refine k_seq ?_
   refine k_region rfl ?_
   iterate 5 refine a_op ?_
   refine s_nil (r_false ?_)
   refine q_next ?_
   refine k_ret ?_
   refine q_block_ret (q_seq_ret ?_)
   refine ⟨.inr rfl, a_ret [] (by rw [results16]) ?_ ?_ ?_⟩ <;> simp [-List.map_set, -List.map_replicate, -List.reduceReplicate, -List.map_map, -List.map_drop, -List.map_take, num, bol, txt, w8, w16, w32, w64, lst, cls, rowO, boxO, List.take_of_length_le, Wr.cellsL_len, wA, Wr.k_mk, Wr.n_mk, Wr.s_mk, Wr.l_mk, Wr.cellsL, Wr.z_eq, rcT, wpT, hq, lkT_0, lkT_1, lkT_2, lkT_3]
  ·have hq := chC_3 (l := l) hr hp ⟨hs, by rw [hpv]; simpa using hv⟩ (by exact .inl ⟨hz, .inr (by omega)⟩)
   have q2' : ¬ r.dev = 0 := q2
   iterate 4 refine a_op ?_
   refine a_op (hs := by (simp (disch := omega) only [push_cast, reduceCtorEq, hs] <;> rfl)) ?_
   refine a_op ?_
   refine a_go ?_
   refine a_go ?_
   refine a_go ?_
   refine a_go (hs := by (simp (disch := omega) only [push_cast, reduceCtorEq, hv] <;> rfl)) ?_
   refine a_op ?_
   refine a_op ?_
   refine s_nil (r_false ?_)
   refine q_next ?_
   refine a_false ?_
   refine k_seq ?_
   refine k_region rfl ?_
   iterate 3 refine a_op ?_
   refine a_go ?_
   refine a_go ?_
   refine a_go (hs := by (simp (disch := omega) only [push_cast, reduceCtorEq, q1] <;> rfl)) ?_
   refine a_go ?_
   refine a_go ?_
   refine a_go ?_
   refine a_go (hs := by (simp (disch := omega) only [push_cast, reduceCtorEq, q2'] <;> rfl)) ?_
   refine a_go ?_
   refine a_op ?_
   refine a_op ?_
   refine a_no ?_
   refine a_no ?_
   refine a_no ?_
   refine a_no ?_
   refine a_no ?_
   refine a_no ?_
   refine a_no ?_
   refine a_no ?_
   refine a_op ?_
   refine a_op ?_
   refine a_no ?_
   refine a_no ?_
   refine a_no ?_
   refine a_no ?_
   refine a_no ?_
   refine a_op ?_
   refine a_op ?_
   refine s_nil (r_false ?_)
   refine q_next ?_
   refine a_true ?_
   refine k_seq ?_
   refine k_region rfl ?_
   iterate 5 refine a_op ?_
   refine s_nil (r_false ?_)
   refine q_next ?_
   refine k_ret ?_
   refine q_block_ret (q_seq_ret ?_)
   refine ⟨.inr rfl, a_ret [] (by rw [results16]) ?_ ?_ ?_⟩ <;> simp [-List.map_set, -List.map_replicate, -List.reduceReplicate, -List.map_map, -List.map_drop, -List.map_take, num, bol, txt, w8, w16, w32, w64, lst, cls, rowO, boxO, List.take_of_length_le, Wr.cellsL_len, wA, Wr.k_mk, Wr.n_mk, Wr.s_mk, Wr.l_mk, Wr.cellsL, Wr.z_eq, rcT, wpT, hq, lkT_0, lkT_1, lkT_2, lkT_3]
  ·have hq := chC_3 (l := l) hr hp ⟨hs, by rw [hpv]; simpa using hv⟩ (by exact .inl ⟨hz, .inl (by omega)⟩)
   iterate 4 refine a_op ?_
   refine a_op (hs := by (simp (disch := omega) only [push_cast, reduceCtorEq, hs] <;> rfl)) ?_
   refine a_op ?_
   refine a_go ?_
   refine a_go ?_
   refine a_go ?_
   refine a_go (hs := by (simp (disch := omega) only [push_cast, reduceCtorEq, hv] <;> rfl)) ?_
   refine a_op ?_
   refine a_op ?_
   refine s_nil (r_false ?_)
   refine q_next ?_
   refine a_false ?_
   refine k_seq ?_
   refine k_region rfl ?_
   iterate 3 refine a_op ?_
   refine a_go ?_
   refine a_go ?_
   refine a_go (hs := by (simp (disch := omega) only [push_cast, reduceCtorEq, q1] <;> rfl)) ?_
   refine a_go ?_
   refine a_no ?_
   refine a_no ?_
   refine a_no ?_
   refine a_go ?_
   refine a_op ?_
   refine a_op ?_
   refine a_no ?_
   refine a_no ?_
   refine a_no ?_
   refine a_no ?_
   refine a_no ?_
   refine a_no ?_
   refine a_no ?_
   refine a_no ?_
   refine a_op ?_
   refine a_op ?_
   refine a_no ?_
   refine a_no ?_
   refine a_no ?_
   refine a_no ?_
   refine a_no ?_
   refine a_op ?_
   refine a_op ?_
   refine s_nil (r_false ?_)
   refine q_next ?_
   refine a_true ?_
   refine k_seq ?_
   refine k_region rfl ?_
   iterate 5 refine a_op ?_
   refine s_nil (r_false ?_)
   refine q_next ?_
   refine k_ret ?_
   refine q_block_ret (q_seq_ret ?_)
   refine ⟨.inr rfl, a_ret [] (by rw [results16]) ?_ ?_ ?_⟩ <;> simp [-List.map_set, -List.map_replicate, -List.reduceReplicate, -List.map_map, -List.map_drop, -List.map_take, num, bol, txt, w8, w16, w32, w64, lst, cls, rowO, boxO, List.take_of_length_le, Wr.cellsL_len, wA, Wr.k_mk, Wr.n_mk, Wr.s_mk, Wr.l_mk, Wr.cellsL, Wr.z_eq, rcT, wpT, hq, lkT_0, lkT_1, lkT_2, lkT_3]
  ·have hq := chC_3 (l := l) hr hp ⟨hs, by rw [hpv]; simpa using hv⟩ (by exact .inl ⟨hz, .inl (by omega)⟩)
   iterate 4 refine a_op ?_
   refine a_op (hs := by (simp (disch := omega) only [push_cast, reduceCtorEq, hs] <;> rfl)) ?_
   refine a_op ?_
   refine a_go ?_
   refine a_go ?_
   refine a_go ?_
   refine a_go (hs := by (simp (disch := omega) only [push_cast, reduceCtorEq, hv] <;> rfl)) ?_
   refine a_op ?_
   refine a_op ?_
   refine s_nil (r_false ?_)
   refine q_next ?_
   refine a_false ?_
   refine k_seq ?_
   refine k_region rfl ?_
   iterate 3 refine a_op ?_
   refine a_go ?_
   refine a_go ?_
   refine a_go (hs := by (simp (disch := omega) only [push_cast, reduceCtorEq, q1] <;> rfl)) ?_
   refine a_go ?_
   refine a_no ?_
   refine a_no ?_
   refine a_no ?_
   refine a_go ?_
   refine a_op ?_
   refine a_op ?_
   refine a_no ?_
   refine a_no ?_
   refine a_no ?_
   refine a_no ?_
   refine a_no ?_
   refine a_no ?_
   refine a_no ?_
   refine a_no ?_
   refine a_op ?_
   refine a_op ?_
   refine a_no ?_
   refine a_no ?_
   refine a_no ?_
   refine a_no ?_
   refine a_no ?_
   refine a_op ?_
   refine a_op ?_
   refine s_nil (r_false ?_)
   refine q_next ?_
   refine a_true ?_
   refine k_seq ?_
   refine k_region rfl ?_
   iterate 5 refine a_op ?_
   refine s_nil (r_false ?_)
   refine q_next ?_
   refine k_ret ?_
   refine q_block_ret (q_seq_ret ?_)
   refine ⟨.inr rfl, a_ret [] (by rw [results16]) ?_ ?_ ?_⟩ <;> simp [-List.map_set, -List.map_replicate, -List.reduceReplicate, -List.map_map, -List.map_drop, -List.map_take, num, bol, txt, w8, w16, w32, w64, lst, cls, rowO, boxO, List.take_of_length_le, Wr.cellsL_len, wA, Wr.k_mk, Wr.n_mk, Wr.s_mk, Wr.l_mk, Wr.cellsL, Wr.z_eq, rcT, wpT, hq, lkT_0, lkT_1, lkT_2, lkT_3]
  ·have hq := chC_3 (l := l) hr hp ⟨hs, by rw [hpv]; simpa using hv⟩ (by exact .inl ⟨hz, .inl (by omega)⟩)
   have q2' : ¬ r.dev = 0 := q2
   iterate 4 refine a_op ?_
   refine a_op (hs := by (simp (disch := omega) only [push_cast, reduceCtorEq, hs] <;> rfl)) ?_
   refine a_op ?_
   refine a_go ?_
   refine a_go ?_
   refine a_go ?_
   refine a_go (hs := by (simp (disch := omega) only [push_cast, reduceCtorEq, hv] <;> rfl)) ?_
   refine a_op ?_
   refine a_op ?_
   refine s_nil (r_false ?_)
   refine q_next ?_
   refine a_false ?_
   refine k_seq ?_
   refine k_region rfl ?_
   iterate 3 refine a_op ?_
   refine a_go ?_
   refine a_go ?_
   refine a_go (hs := by (simp (disch := omega) only [push_cast, reduceCtorEq, q1] <;> rfl)) ?_
   refine a_go ?_
   refine a_no ?_
   refine a_no ?_
   refine a_no ?_
   refine a_go ?_
   refine a_op ?_
   refine a_op ?_
   refine a_no ?_
   refine a_no ?_
   refine a_no ?_
   refine a_no ?_
   refine a_no ?_
   refine a_no ?_
   refine a_no ?_
   refine a_no ?_
   refine a_op ?_
   refine a_op ?_
   refine a_no ?_
   refine a_no ?_
   refine a_no ?_
   refine a_no ?_
   refine a_no ?_
   refine a_op ?_
   refine a_op ?_
   refine s_nil (r_false ?_)
   refine q_next ?_
   refine a_true ?_
   refine k_seq ?_
   refine k_region rfl ?_
   iterate 5 refine a_op ?_
   refine s_nil (r_false ?_)
   refine q_next ?_
   refine k_ret ?_
   refine q_block_ret (q_seq_ret ?_)
   refine ⟨.inr rfl, a_ret [] (by rw [results16]) ?_ ?_ ?_⟩ <;> simp [-List.map_set, -List.map_replicate, -List.reduceReplicate, -List.map_map, -List.map_drop, -List.map_take, num, bol, txt, w8, w16, w32, w64, lst, cls, rowO, boxO, List.take_of_length_le, Wr.cellsL_len, wA, Wr.k_mk, Wr.n_mk, Wr.s_mk, Wr.l_mk, Wr.cellsL, Wr.z_eq, rcT, wpT, hq, lkT_0, lkT_1, lkT_2, lkT_3]
  ·have hq := chC_3 (l := l) hr hp ⟨hs, by rw [hpv]; simpa using hv⟩ (by exact .inl ⟨hz, .inl (by omega)⟩)
   have q2' : ¬ r.dev = 0 := q2
   iterate 4 refine a_op ?_
   refine a_op (hs := by (simp (disch := omega) only [push_cast, reduceCtorEq, hs] <;> rfl)) ?_
   refine a_op ?_
   refine a_go ?_
   refine a_go ?_
   refine a_go ?_
   refine a_go (hs := by (simp (disch := omega) only [push_cast, reduceCtorEq, hv] <;> rfl)) ?_
   refine a_op ?_
   refine a_op ?_
   refine s_nil (r_false ?_)
   refine q_next ?_
   refine a_false ?_
   refine k_seq ?_
   refine k_region rfl ?_
   iterate 3 refine a_op ?_
   refine a_go ?_
   refine a_go ?_
   refine a_go (hs := by (simp (disch := omega) only [push_cast, reduceCtorEq, q1] <;> rfl)) ?_
   refine a_go ?_
   refine a_no ?_
   refine a_no ?_
   refine a_no ?_
   refine a_go ?_
   refine a_op ?_
   refine a_op ?_
   refine a_no ?_
   refine a_no ?_
   refine a_no ?_
   refine a_no ?_
   refine a_no ?_
   refine a_no ?_
   refine a_no ?_
   refine a_no ?_
   refine a_op ?_
   refine a_op ?_
   refine a_no ?_
   refine a_no ?_
   refine a_no ?_
   refine a_no ?_
   refine a_no ?_
   refine a_op ?_
   refine a_op ?_
   refine s_nil (r_false ?_)
   refine q_next ?_
   refine a_true ?_
   refine k_seq ?_
   refine k_region rfl ?_
   iterate 5 refine a_op ?_
   refine s_nil (r_false ?_)
   refine q_next ?_
   refine k_ret ?_
   refine q_block_ret (q_seq_ret ?_)
   refine ⟨.inr rfl, a_ret [] (by rw [results16]) ?_ ?_ ?_⟩ <;> simp [-List.map_set, -List.map_replicate, -List.reduceReplicate, -List.map_map, -List.map_drop, -List.map_take, num, bol, txt, w8, w16, w32, w64, lst, cls, rowO, boxO, List.take_of_length_le, Wr.cellsL_len, wA, Wr.k_mk, Wr.n_mk, Wr.s_mk, Wr.l_mk, Wr.cellsL, Wr.z_eq, rcT, wpT, hq, lkT_0, lkT_1, lkT_2, lkT_3]

theorem chd_s (Γ : Gl) (log : List Rc) (l : List Int) (i : Nat) (hz : i ≠ 0) (hi : i < log.length) (hln : l.length ≤ 1000000) (hl : log.length ≤ 1000000) (hw : ∀ j, (log.getD j default).wraps.length ≤ 9223372036854775807)  : Go.Ot.Good Γ prog 16 [.t (.sl log.length (log.flatMap rcT)), .t (num i), .t (lst num l)] [] (.t (lkT i (chC log l i))) [] [] := by
 obtain ⟨k, hk1, hk2⟩ : ∃ k : Nat, (i : Int) - 1 = (k : Int) ∧ k + 1 = i := ⟨i - 1, by omega, by omega⟩
 have hpv : prevF log i = hsh (log.getD k default) := by rw [← hk2]; rfl
 refine a_body F.mix func16 (by rfl) ntmps16 ?_
 refine k_seq ?_
 refine k_region rfl ?_
 refine a_op ?_
 refine s_nil (r_false ?_)
 refine q_next ?_
 refine k_seq ?_
 refine k_region rfl ?_
 iterate 4 refine a_op ?_
 obtain ⟨r, hr⟩ : ∃ r, log.getD i default = r := ⟨_, rfl⟩
 simp only [hr]
 have hwr := hw i
 rw [hr] at hwr
 refine a_op ?_
 refine a_op ?_
 refine s_nil (r_false ?_)
 refine q_next ?_
 refine k_seq ?_
 refine k_region rfl ?_
 refine a_op ?_
 refine s_nil (r_false ?_)
 refine q_next ?_
 refine k_seq ?_
 refine k_seq ?_
 refine k_region rfl ?_
 refine a_op ?_
 refine a_op ?_
 refine s_nil (r_false ?_)
 refine q_next ?_
 refine a_true ?_
 refine k_region rfl ?_
 refine a_op ?_
 refine a_op ?_
 refine a_op (hs := by (simp (disch := omega) only [push_cast, reduceCtorEq, hk1] <;> rfl)) ?_
 refine a_op ?_
 refine a_op ?_
 refine a_call [] false (hash_good Γ (log.getD k default) (hw k)) ?_
 refine a_op ?_
 refine s_nil (r_false ?_)
 refine q_next ?_
 refine k_seq ?_
 refine k_region rfl ?_
 iterate 3 refine a_op ?_
 refine a_call [] false (cnt_good Γ l r.dev hln) ?_
 refine a_op ?_
 refine s_nil (r_false ?_)
 refine q_next ?_
 refine k_seq ?_
 refine k_block ?_
 refine k_seq ?_
 refine k_region rfl ?_
 rcases Classical.em (¬ rcP r) with hp | hp
 rotate_left 1
 have hp := Classical.not_not.1 hp
 rotate_left 1
 ·have hq := chC_1 (l := l) hr hp
  refine a_op ?_
  refine a_call [] false ((by have h := rmay_good Γ r hwr; rw [rcB_f hp] at h; exact h)) ?_
  refine a_op ?_
  refine a_op ?_
  refine s_nil (r_false ?_)
  refine q_next ?_
  refine a_true ?_
  refine k_seq ?_
  refine k_region rfl ?_
  iterate 5 refine a_op ?_
  refine s_nil (r_false ?_)
  refine q_next ?_
  refine k_ret ?_
  refine q_block_ret (q_seq_ret ?_)
  refine ⟨.inr rfl, a_ret [] (by rw [results16]) ?_ ?_ ?_⟩ <;> simp [-List.map_set, -List.map_replicate, -List.reduceReplicate, -List.map_map, -List.map_drop, -List.map_take, num, bol, txt, w8, w16, w32, w64, lst, cls, rowO, boxO, List.take_of_length_le, Wr.cellsL_len, wA, Wr.k_mk, Wr.n_mk, Wr.s_mk, Wr.l_mk, Wr.cellsL, Wr.z_eq, rcT, wpT, hq, lkT_0, lkT_1, lkT_2, lkT_3]
 ·skip
  refine a_op ?_
  refine a_call [] false ((by have h := rmay_good Γ r hwr; rw [rcB_t hp] at h; exact h)) ?_
  refine a_op ?_
  refine a_op ?_
  refine s_nil (r_false ?_)
  refine q_next ?_
  refine a_false ?_
  refine k_seq ?_
  refine k_region rfl ?_
  have hkd : r.kind = 1 ∨ r.kind = 2 := hp.2.2.2.1
  have h8 : (¬ r.seq = ((i : Int) + 1)) ∨ (r.seq = ((i : Int) + 1) ∧ (r.prev == hsh (log.getD k default)) = false) ∨ (r.seq = ((i : Int) + 1) ∧ (r.prev == hsh (log.getD k default)) = true ∧ ((r.kind = 1 ∧ r.dev = 0 ∧ l.contains r.dev = true) ∨ (r.kind = 1 ∧ r.dev = 0 ∧ l.contains r.dev = false) ∨ (r.kind = 1 ∧ ¬ r.dev = 0 ∧ l.contains r.dev = true) ∨ (r.kind = 1 ∧ ¬ r.dev = 0 ∧ l.contains r.dev = false) ∨ (r.kind = 2 ∧ r.dev = 0 ∧ l.contains r.dev = true) ∨ (r.kind = 2 ∧ r.dev = 0 ∧ l.contains r.dev = false) ∨ (r.kind = 2 ∧ ¬ r.dev = 0 ∧ l.contains r.dev = true) ∨ (r.kind = 2 ∧ ¬ r.dev = 0 ∧ l.contains r.dev = false))) := by
   by_cases hs : r.seq = ((i : Int) + 1)
   ·rcases hv : (r.prev == hsh (log.getD k default)) with _ | _
    ·exact .inr (.inl ⟨hs, rfl⟩)
    ·refine .inr (.inr ⟨hs, rfl, ?_⟩)
     rcases hkd with h1 | h1
     ·by_cases h2 : r.dev = 0
      ·rcases h3 : l.contains r.dev with _ | _
       ·exact .inr (.inl (⟨h1, h2, rfl⟩))
       ·exact .inl (⟨h1, h2, rfl⟩)
      ·rcases h3 : l.contains r.dev with _ | _
       ·exact .inr (.inr (.inr (.inl (⟨h1, h2, rfl⟩))))
       ·exact .inr (.inr (.inl (⟨h1, h2, rfl⟩)))
     ·by_cases h2 : r.dev = 0
      ·rcases h3 : l.contains r.dev with _ | _
       ·exact .inr (.inr (.inr (.inr (.inr (.inl (⟨h1, h2, rfl⟩))))))
       ·exact .inr (.inr (.inr (.inr (.inl (⟨h1, h2, rfl⟩)))))
      ·rcases h3 : l.contains r.dev with _ | _
       ·exact .inr (.inr (.inr (.inr (.inr (.inr (.inr (⟨h1, h2, rfl⟩)))))))
       ·exact .inr (.inr (.inr (.inr (.inr (.inr (.inl (⟨h1, h2, rfl⟩)))))))
   ·exact .inl hs
  rcases h8 with hs | ⟨hs, hv⟩ | ⟨hs, hv, ⟨q1, q2, q3⟩ | ⟨q1, q2, q3⟩ | ⟨q1, q2, q3⟩ | ⟨q1, q2, q3⟩ | ⟨q1, q2, q3⟩ | ⟨q1, q2, q3⟩ | ⟨q1, q2, q3⟩ | ⟨q1, q2, q3⟩⟩
  ·have hq := chC_2 (l := l) hr hp (fun h => hs h.1)
   iterate 4 refine a_op ?_
   refine a_op (hs := by (simp (disch := omega) only [push_cast, reduceCtorEq, hs] <;> rfl)) ?_
   refine a_op ?_
   refine a_no ?_
   refine a_no ?_
   refine a_no ?_
   refine a_no ?_
   refine a_op ?_
   refine a_op ?_
   refine s_nil (r_false ?_)
   refine q_next ?_
   refine a_true ?_
   refine k_seq ?_
   refine k_region rfl ?_
   iterate 5 refine a_op ?_
   refine s_nil (r_false ?_)
   refine q_next ?_
   refine k_ret ?_
   refine q_block_ret (q_seq_ret ?_)
   refine ⟨.inr rfl, a_ret [] (by rw [results16]) ?_ ?_ ?_⟩ <;> simp [-List.map_set, -List.map_replicate, -List.reduceReplicate, -List.map_map, -List.map_drop, -List.map_take, num, bol, txt, w8, w16, w32, w64, lst, cls, rowO, boxO, List.take_of_length_le, Wr.cellsL_len, wA, Wr.k_mk, Wr.n_mk, Wr.s_mk, Wr.l_mk, Wr.cellsL, Wr.z_eq, rcT, wpT, hq, lkT_0, lkT_1, lkT_2, lkT_3]
  ·have hv' : ¬ r.prev = hsh (log.getD k default) := fun e => by rw [e] at hv; simp at hv
   have hq := chC_2 (l := l) hr hp (fun h => hv' (by rw [← hpv]; exact h.2))
   iterate 4 refine a_op ?_
   refine a_op (hs := by (simp (disch := omega) only [push_cast, reduceCtorEq, hs] <;> rfl)) ?_
   refine a_op ?_
   refine a_go ?_
   refine a_go ?_
   refine a_go ?_
   refine a_go (hs := by (simp (disch := omega) only [push_cast, reduceCtorEq, hv] <;> rfl)) ?_
   refine a_op ?_
   refine a_op ?_
   refine s_nil (r_false ?_)
   refine q_next ?_
   refine a_true ?_
   refine k_seq ?_
   refine k_region rfl ?_
   iterate 5 refine a_op ?_
   refine s_nil (r_false ?_)
   refine q_next ?_
   refine k_ret ?_
   refine q_block_ret (q_seq_ret ?_)
   refine ⟨.inr rfl, a_ret [] (by rw [results16]) ?_ ?_ ?_⟩ <;> simp [-List.map_set, -List.map_replicate, -List.reduceReplicate, -List.map_map, -List.map_drop, -List.map_take, num, bol, txt, w8, w16, w32, w64, lst, cls, rowO, boxO, List.take_of_length_le, Wr.cellsL_len, wA, Wr.k_mk, Wr.n_mk, Wr.s_mk, Wr.l_mk, Wr.cellsL, Wr.z_eq, rcT, wpT, hq, lkT_0, lkT_1, lkT_2, lkT_3]
  ·have hq := chC_3 (l := l) hr hp ⟨hs, by rw [hpv]; simpa using hv⟩ (by refine .inr (.inr ?_); rw [q3, q1]; decide)
   iterate 4 refine a_op ?_
   refine a_op (hs := by (simp (disch := omega) only [push_cast, reduceCtorEq, hs] <;> rfl)) ?_
   refine a_op ?_
   refine a_go ?_
   refine a_go ?_
   refine a_go ?_
   refine a_go (hs := by (simp (disch := omega) only [push_cast, reduceCtorEq, hv] <;> rfl)) ?_
   refine a_op ?_
   refine a_op ?_
   refine s_nil (r_false ?_)
   refine q_next ?_
   refine a_false ?_
   refine k_seq ?_
   refine k_region rfl ?_
   iterate 3 refine a_op ?_
   refine a_no ?_
   refine a_no ?_
   refine a_no ?_
   refine a_no ?_
   refine a_no ?_
   refine a_no ?_
   refine a_no ?_
   refine a_no ?_
   refine a_op ?_
   refine a_op ?_
   refine a_go ?_
   refine a_go ?_
   refine a_go (hs := by (simp (disch := omega) only [push_cast, reduceCtorEq, q1] <;> rfl)) ?_
   refine a_go ?_
   refine a_no ?_
   refine a_no ?_
   refine a_no ?_
   refine a_go ?_
   refine a_op ?_
   refine a_op ?_
   refine a_go ?_
   refine a_go ?_
   refine a_go ?_
   refine a_go (hs := by (simp (disch := omega) only [push_cast, reduceCtorEq, q1] <;> rfl)) ?_
   refine a_go (hs := by (simp (disch := omega) only [push_cast, reduceCtorEq, q3] <;> rfl)) ?_
   refine a_op ?_
   refine a_op ?_
   refine s_nil (r_false ?_)
   refine q_next ?_
   refine a_true ?_
   refine k_seq ?_
   refine k_region rfl ?_
   iterate 5 refine a_op ?_
   refine s_nil (r_false ?_)
   refine q_next ?_
   refine k_ret ?_
   refine q_block_ret (q_seq_ret ?_)
   refine ⟨.inr rfl, a_ret [] (by rw [results16]) ?_ ?_ ?_⟩ <;> simp [-List.map_set, -List.map_replicate, -List.reduceReplicate, -List.map_map, -List.map_drop, -List.map_take, num, bol, txt, w8, w16, w32, w64, lst, cls, rowO, boxO, List.take_of_length_le, Wr.cellsL_len, wA, Wr.k_mk, Wr.n_mk, Wr.s_mk, Wr.l_mk, Wr.cellsL, Wr.z_eq, rcT, wpT, hq, lkT_0, lkT_1, lkT_2, lkT_3]
  ·have hq := chC_0 (l := l) hr hp ⟨hs, by rw [hpv]; simpa using hv⟩ (by rintro (⟨h, h'⟩ | ⟨h, h'⟩ | h) <;> first | omega | (rw [q3, q1] at h; exact h (by decide)))
   iterate 4 refine a_op ?_
   refine a_op (hs := by (simp (disch := omega) only [push_cast, reduceCtorEq, hs] <;> rfl)) ?_
   refine a_op ?_
   refine a_go ?_
   refine a_go ?_
   refine a_go ?_
   refine a_go (hs := by (simp (disch := omega) only [push_cast, reduceCtorEq, hv] <;> rfl)) ?_
   refine a_op ?_
   refine a_op ?_
   refine s_nil (r_false ?_)
   refine q_next ?_
   refine a_false ?_
   refine k_seq ?_
   refine k_region rfl ?_
   iterate 3 refine a_op ?_
   refine a_no ?_
   refine a_no ?_
   refine a_no ?_
   refine a_no ?_
   refine a_no ?_
   refine a_no ?_
   refine a_no ?_
   refine a_no ?_
   refine a_op ?_
   refine a_op ?_
   refine a_go ?_
   refine a_go ?_
   refine a_go (hs := by (simp (disch := omega) only [push_cast, reduceCtorEq, q1] <;> rfl)) ?_
   refine a_go ?_
   refine a_no ?_
   refine a_no ?_
   refine a_no ?_
   refine a_go ?_
   refine a_op ?_
   refine a_op ?_
   refine a_go ?_
   refine a_go ?_
   refine a_go ?_
   refine a_go (hs := by (simp (disch := omega) only [push_cast, reduceCtorEq, q1] <;> rfl)) ?_
   refine a_go (hs := by (simp (disch := omega) only [push_cast, reduceCtorEq, q3] <;> rfl)) ?_
   refine a_op ?_
   refine a_op ?_
   refine s_nil (r_false ?_)
   refine q_next ?_
   refine a_false ?_
   refine k_skip ?_
   refine q_block (q_next ?_)
   refine k_seq ?_
   refine k_region rfl ?_
   refine a_op ?_
   refine s_nil (r_false ?_)
   refine q_next ?_
   refine k_ret ?_
   refine ⟨.inr rfl, a_ret [] (by rw [results16]) ?_ ?_ ?_⟩ <;> simp [-List.map_set, -List.map_replicate, -List.reduceReplicate, -List.map_map, -List.map_drop, -List.map_take, num, bol, txt, w8, w16, w32, w64, lst, cls, rowO, boxO, List.take_of_length_le, Wr.cellsL_len, wA, Wr.k_mk, Wr.n_mk, Wr.s_mk, Wr.l_mk, Wr.cellsL, Wr.z_eq, rcT, wpT, hq, lkT_0, lkT_1, lkT_2, lkT_3]
  ·have hq := chC_3 (l := l) hr hp ⟨hs, by rw [hpv]; simpa using hv⟩ (by refine .inr (.inr ?_); rw [q3, q1]; decide)
   have q2' : ¬ r.dev = 0 := q2
   iterate 4 refine a_op ?_
   refine a_op (hs := by (simp (disch := omega) only [push_cast, reduceCtorEq, hs] <;> rfl)) ?_
   refine a_op ?_
   refine a_go ?_
   refine a_go ?_
   refine a_go ?_
   refine a_go (hs := by (simp (disch := omega) only [push_cast, reduceCtorEq, hv] <;> rfl)) ?_
   refine a_op ?_
   refine a_op ?_
   refine s_nil (r_false ?_)
   refine q_next ?_
   refine a_false ?_
   refine k_seq ?_
   refine k_region rfl ?_
   iterate 3 refine a_op ?_
   refine a_no ?_
   refine a_no ?_
   refine a_no ?_
   refine a_no ?_
   refine a_no ?_
   refine a_no ?_
   refine a_no ?_
   refine a_no ?_
   refine a_op ?_
   refine a_op ?_
   refine a_go ?_
   refine a_go ?_
   refine a_go (hs := by (simp (disch := omega) only [push_cast, reduceCtorEq, q1] <;> rfl)) ?_
   refine a_go ?_
   refine a_no ?_
   refine a_no ?_
   refine a_no ?_
   refine a_go ?_
   refine a_op ?_
   refine a_op ?_
   refine a_go ?_
   refine a_go ?_
   refine a_go ?_
   refine a_go (hs := by (simp (disch := omega) only [push_cast, reduceCtorEq, q1] <;> rfl)) ?_
   refine a_go (hs := by (simp (disch := omega) only [push_cast, reduceCtorEq, q3] <;> rfl)) ?_
   refine a_op ?_
   refine a_op ?_
   refine s_nil (r_false ?_)
   refine q_next ?_
   refine a_true ?_
   refine k_seq ?_
   refine k_region rfl ?_
   iterate 5 refine a_op ?_
   refine s_nil (r_false ?_)
   refine q_next ?_
   refine k_ret ?_
   refine q_block_ret (q_seq_ret ?_)
   refine ⟨.inr rfl, a_ret [] (by rw [results16]) ?_ ?_ ?_⟩ <;> simp [-List.map_set, -List.map_replicate, -List.reduceReplicate, -List.map_map, -List.map_drop, -List.map_take, num, bol, txt, w8, w16, w32, w64, lst, cls, rowO, boxO, List.take_of_length_le, Wr.cellsL_len, wA, Wr.k_mk, Wr.n_mk, Wr.s_mk, Wr.l_mk, Wr.cellsL, Wr.z_eq, rcT, wpT, hq, lkT_0, lkT_1, lkT_2, lkT_3]
  ·have hq := chC_0 (l := l) hr hp ⟨hs, by rw [hpv]; simpa using hv⟩ (by rintro (⟨h, h'⟩ | ⟨h, h'⟩ | h) <;> first | omega | (rw [q3, q1] at h; exact h (by decide)))
   have q2' : ¬ r.dev = 0 := q2
   iterate 4 refine a_op ?_
   refine a_op (hs := by (simp (disch := omega) only [push_cast, reduceCtorEq, hs] <;> rfl)) ?_
   refine a_op ?_
   refine a_go ?_
   refine a_go ?_
   refine a_go ?_
   refine a_go (hs := by (simp (disch := omega) only [push_cast, reduceCtorEq, hv] <;> rfl)) ?_
   refine a_op ?_
   refine a_op ?_
   refine s_nil (r_false ?_)
   refine q_next ?_
   refine a_false ?_
   refine k_seq ?_
   refine k_region rfl ?_
   iterate 3 refine a_op ?_
   refine a_no ?_
   refine a_no ?_
   refine a_no ?_
   refine a_no ?_
   refine a_no ?_
   refine a_no ?_
   refine a_no ?_
   refine a_no ?_
   refine a_op ?_
   refine a_op ?_
   refine a_go ?_
   refine a_go ?_
   refine a_go (hs := by (simp (disch := omega) only [push_cast, reduceCtorEq, q1] <;> rfl)) ?_
   refine a_go ?_
   refine a_no ?_
   refine a_no ?_
   refine a_no ?_
   refine a_go ?_
   refine a_op ?_
   refine a_op ?_
   refine a_go ?_
   refine a_go ?_
   refine a_go ?_
   refine a_go (hs := by (simp (disch := omega) only [push_cast, reduceCtorEq, q1] <;> rfl)) ?_
   refine a_go (hs := by (simp (disch := omega) only [push_cast, reduceCtorEq, q3] <;> rfl)) ?_
   refine a_op ?_
   refine a_op ?_
   refine s_nil (r_false ?_)
   refine q_next ?_
   refine a_false ?_
   refine k_skip ?_
   refine q_block (q_next ?_)
   refine k_seq ?_
   refine k_region rfl ?_
   refine a_op ?_
   refine s_nil (r_false ?_)
   refine q_next ?_
   refine k_ret ?_
   refine ⟨.inr rfl, a_ret [] (by rw [results16]) ?_ ?_ ?_⟩ <;> simp [-List.map_set, -List.map_replicate, -List.reduceReplicate, -List.map_map, -List.map_drop, -List.map_take, num, bol, txt, w8, w16, w32, w64, lst, cls, rowO, boxO, List.take_of_length_le, Wr.cellsL_len, wA, Wr.k_mk, Wr.n_mk, Wr.s_mk, Wr.l_mk, Wr.cellsL, Wr.z_eq, rcT, wpT, hq, lkT_0, lkT_1, lkT_2, lkT_3]
  ·have hq := chC_3 (l := l) hr hp ⟨hs, by rw [hpv]; simpa using hv⟩ (by exact .inr (.inl ⟨by omega, by omega⟩))
   iterate 4 refine a_op ?_
   refine a_op (hs := by (simp (disch := omega) only [push_cast, reduceCtorEq, hs] <;> rfl)) ?_
   refine a_op ?_
   refine a_go ?_
   refine a_go ?_
   refine a_go ?_
   refine a_go (hs := by (simp (disch := omega) only [push_cast, reduceCtorEq, hv] <;> rfl)) ?_
   refine a_op ?_
   refine a_op ?_
   refine s_nil (r_false ?_)
   refine q_next ?_
   refine a_false ?_
   refine k_seq ?_
   refine k_region rfl ?_
   iterate 3 refine a_op ?_
   refine a_no ?_
   refine a_no ?_
   refine a_no ?_
   refine a_no ?_
   refine a_no ?_
   refine a_no ?_
   refine a_no ?_
   refine a_no ?_
   refine a_op ?_
   refine a_op ?_
   refine a_go ?_
   refine a_go ?_
   refine a_go (hs := by (simp (disch := omega) only [push_cast, reduceCtorEq, q1] <;> rfl)) ?_
   refine a_go ?_
   refine a_go ?_
   refine a_go ?_
   refine a_go (hs := by (simp (disch := omega) only [push_cast, reduceCtorEq, q2] <;> rfl)) ?_
   refine a_go ?_
   refine a_op ?_
   refine a_op ?_
   refine a_no ?_
   refine a_no ?_
   refine a_no ?_
   refine a_no ?_
   refine a_no ?_
   refine a_op ?_
   refine a_op ?_
   refine s_nil (r_false ?_)
   refine q_next ?_
   refine a_true ?_
   refine k_seq ?_
   refine k_region rfl ?_
   iterate 5 refine a_op ?_
   refine s_nil (r_false ?_)
   refine q_next ?_
   refine k_ret ?_
   refine q_block_ret (q_seq_ret ?_)
   refine ⟨.inr rfl, a_ret [] (by rw [results16]) ?_ ?_ ?_⟩ <;> simp [-List.map_set, -List.map_replicate, -List.reduceReplicate, -List.map_map, -List.map_drop, -List.map_take, num, bol, txt, w8, w16, w32, w64, lst, cls, rowO, boxO, List.take_of_length_le, Wr.cellsL_len, wA, Wr.k_mk, Wr.n_mk, Wr.s_mk, Wr.l_mk, Wr.cellsL, Wr.z_eq, rcT, wpT, hq, lkT_0, lkT_1, lkT_2, lkT_3]
  ·have hq := chC_3 (l := l) hr hp ⟨hs, by rw [hpv]; simpa using hv⟩ (by exact .inr (.inl ⟨by omega, by omega⟩))
   iterate 4 refine a_op ?_
   refine a_op (hs := by (simp (disch := omega) only [push_cast, reduceCtorEq, hs] <;> rfl)) ?_
   refine a_op ?_
   refine a_go ?_
   refine a_go ?_
   refine a_go ?_
   refine a_go (hs := by (simp (disch := omega) only [push_cast, reduceCtorEq, hv] <;> rfl)) ?_
   refine a_op ?_
   refine a_op ?_
   refine s_nil (r_false ?_)
   refine q_next ?_
   refine a_false ?_
   refine k_seq ?_
   refine k_region rfl ?_
   iterate 3 refine a_op ?_
   refine a_no ?_
   refine a_no ?_
   refine a_no ?_
   refine a_no ?_
   refine a_no ?_
   refine a_no ?_
   refine a_no ?_
   refine a_no ?_
   refine a_op ?_
   refine a_op ?_
   refine a_go ?_
   refine a_go ?_
   refine a_go (hs := by (simp (disch := omega) only [push_cast, reduceCtorEq, q1] <;> rfl)) ?_
   refine a_go ?_
   refine a_go ?_
   refine a_go ?_
   refine a_go (hs := by (simp (disch := omega) only [push_cast, reduceCtorEq, q2] <;> rfl)) ?_
   refine a_go ?_
   refine a_op ?_
   refine a_op ?_
   refine a_no ?_
   refine a_no ?_
   refine a_no ?_
   refine a_no ?_
   refine a_no ?_
   refine a_op ?_
   refine a_op ?_
   refine s_nil (r_false ?_)
   refine q_next ?_
   refine a_true ?_
   refine k_seq ?_
   refine k_region rfl ?_
   iterate 5 refine a_op ?_
   refine s_nil (r_false ?_)
   refine q_next ?_
   refine k_ret ?_
   refine q_block_ret (q_seq_ret ?_)
   refine ⟨.inr rfl, a_ret [] (by rw [results16]) ?_ ?_ ?_⟩ <;> simp [-List.map_set, -List.map_replicate, -List.reduceReplicate, -List.map_map, -List.map_drop, -List.map_take, num, bol, txt, w8, w16, w32, w64, lst, cls, rowO, boxO, List.take_of_length_le, Wr.cellsL_len, wA, Wr.k_mk, Wr.n_mk, Wr.s_mk, Wr.l_mk, Wr.cellsL, Wr.z_eq, rcT, wpT, hq, lkT_0, lkT_1, lkT_2, lkT_3]
  ·have hq := chC_0 (l := l) hr hp ⟨hs, by rw [hpv]; simpa using hv⟩ (by rintro (⟨h, h'⟩ | ⟨h, h'⟩ | h) <;> first | omega | (rw [q3, q1] at h; exact h (by decide)))
   have q2' : ¬ r.dev = 0 := q2
   iterate 4 refine a_op ?_
   refine a_op (hs := by (simp (disch := omega) only [push_cast, reduceCtorEq, hs] <;> rfl)) ?_
   refine a_op ?_
   refine a_go ?_
   refine a_go ?_
   refine a_go ?_
   refine a_go (hs := by (simp (disch := omega) only [push_cast, reduceCtorEq, hv] <;> rfl)) ?_
   refine a_op ?_
   refine a_op ?_
   refine s_nil (r_false ?_)
   refine q_next ?_
   refine a_false ?_
   refine k_seq ?_
   refine k_region rfl ?_
   iterate 3 refine a_op ?_
   refine a_no ?_
   refine a_no ?_
   refine a_no ?_
   refine a_no ?_
   refine a_no ?_
   refine a_no ?_
   refine a_no ?_
   refine a_no ?_
   refine a_op ?_
   refine a_op ?_
   refine a_go ?_
   refine a_go ?_
   refine a_go (hs := by (simp (disch := omega) only [push_cast, reduceCtorEq, q1] <;> rfl)) ?_
   refine a_go ?_
   refine a_go ?_
   refine a_go ?_
   refine a_go (hs := by (simp (disch := omega) only [push_cast, reduceCtorEq, q2'] <;> rfl)) ?_
   refine a_go ?_
   refine a_op ?_
   refine a_op ?_
   refine a_go ?_
   refine a_go ?_
   refine a_go ?_
   refine a_go (hs := by (simp (disch := omega) only [push_cast, reduceCtorEq, q1] <;> rfl)) ?_
   refine a_go (hs := by (simp (disch := omega) only [push_cast, reduceCtorEq, q3] <;> rfl)) ?_
   refine a_op ?_
   refine a_op ?_
   refine s_nil (r_false ?_)
   refine q_next ?_
   refine a_false ?_
   refine k_skip ?_
   refine q_block (q_next ?_)
   refine k_seq ?_
   refine k_region rfl ?_
   refine a_op ?_
   refine s_nil (r_false ?_)
   refine q_next ?_
   refine k_ret ?_
   refine ⟨.inr rfl, a_ret [] (by rw [results16]) ?_ ?_ ?_⟩ <;> simp [-List.map_set, -List.map_replicate, -List.reduceReplicate, -List.map_map, -List.map_drop, -List.map_take, num, bol, txt, w8, w16, w32, w64, lst, cls, rowO, boxO, List.take_of_length_le, Wr.cellsL_len, wA, Wr.k_mk, Wr.n_mk, Wr.s_mk, Wr.l_mk, Wr.cellsL, Wr.z_eq, rcT, wpT, hq, lkT_0, lkT_1, lkT_2, lkT_3]
  ·have hq := chC_3 (l := l) hr hp ⟨hs, by rw [hpv]; simpa using hv⟩ (by refine .inr (.inr ?_); rw [q3, q1]; decide)
   have q2' : ¬ r.dev = 0 := q2
   iterate 4 refine a_op ?_
   refine a_op (hs := by (simp (disch := omega) only [push_cast, reduceCtorEq, hs] <;> rfl)) ?_
   refine a_op ?_
   refine a_go ?_
   refine a_go ?_
   refine a_go ?_
   refine a_go (hs := by (simp (disch := omega) only [push_cast, reduceCtorEq, hv] <;> rfl)) ?_
   refine a_op ?_
   refine a_op ?_
   refine s_nil (r_false ?_)
   refine q_next ?_
   refine a_false ?_
   refine k_seq ?_
   refine k_region rfl ?_
   iterate 3 refine a_op ?_
   refine a_no ?_
   refine a_no ?_
   refine a_no ?_
   refine a_no ?_
   refine a_no ?_
   refine a_no ?_
   refine a_no ?_
   refine a_no ?_
   refine a_op ?_
   refine a_op ?_
   refine a_go ?_
   refine a_go ?_
   refine a_go (hs := by (simp (disch := omega) only [push_cast, reduceCtorEq, q1] <;> rfl)) ?_
   refine a_go ?_
   refine a_go ?_
   refine a_go ?_
   refine a_go (hs := by (simp (disch := omega) only [push_cast, reduceCtorEq, q2'] <;> rfl)) ?_
   refine a_go ?_
   refine a_op ?_
   refine a_op ?_
   refine a_go ?_
   refine a_go ?_
   refine a_go ?_
   refine a_go (hs := by (simp (disch := omega) only [push_cast, reduceCtorEq, q1] <;> rfl)) ?_
   refine a_go (hs := by (simp (disch := omega) only [push_cast, reduceCtorEq, q3] <;> rfl)) ?_
   refine a_op ?_
   refine a_op ?_
   refine s_nil (r_false ?_)
   refine q_next ?_
   refine a_true ?_
   refine k_seq ?_
   refine k_region rfl ?_
   iterate 5 refine a_op ?_
   refine s_nil (r_false ?_)
   refine q_next ?_
   refine k_ret ?_
   refine q_block_ret (q_seq_ret ?_)
   refine ⟨.inr rfl, a_ret [] (by rw [results16]) ?_ ?_ ?_⟩ <;> simp [-List.map_set, -List.map_replicate, -List.reduceReplicate, -List.map_map, -List.map_drop, -List.map_take, num, bol, txt, w8, w16, w32, w64, lst, cls, rowO, boxO, List.take_of_length_le, Wr.cellsL_len, wA, Wr.k_mk, Wr.n_mk, Wr.s_mk, Wr.l_mk, Wr.cellsL, Wr.z_eq, rcT, wpT, hq, lkT_0, lkT_1, lkT_2, lkT_3]

theorem chd_good (Γ : Gl) (log : List Rc) (l : List Int) (i : Nat) (hi : i < log.length) (hln : l.length ≤ 1000000) (hl : log.length ≤ 1000000) (hw : ∀ j, (log.getD j default).wraps.length ≤ 9223372036854775807) : Go.Ot.Good Γ prog 16 [.t (.sl log.length (log.flatMap rcT)), .t (num i), .t (lst num l)] [] (.t (lkT i (chC log l i))) [] [] := by
 rcases Nat.eq_zero_or_pos i with hz | hz
 ·exact chd_0 Γ log l i hz hi hln hl hw
 ·exact chd_s Γ log l i (by omega) hi hln hl hw
end Go.Proofs.Tryz
