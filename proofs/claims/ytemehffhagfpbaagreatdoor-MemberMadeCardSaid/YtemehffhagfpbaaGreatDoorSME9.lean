/- Contracts of this program's functions. -/
import Derived.Test.YtemehffhagfpbaaGreatDoorSME8
set_option maxHeartbeats 4000000
set_option maxRecDepth 100000
set_option linter.unusedVariables false
set_option linter.unusedSimpArgs false
namespace Go.Proofs.Tryz
open Go Go.Ot

def grR (r : Rc) : Bool := ((List.range (min r.wraps.length 20)).any fun i => decide (400 < (r.wraps.getD i default).box.length)) || (decide (12 < r.wraps.length) || (decide (100 < r.prev.length) || decide (100 < r.tag.length)))
theorem grR_hit {r : Rc} {i : Nat} (h1 : i < r.wraps.length) (h2 : i < 20) (h : 400 < (r.wraps.getD i default).box.length) : grR r = true := by
 rw [grR, Bool.or_eq_true, List.any_eq_true]
 exact .inl ⟨i, List.mem_range.2 (by omega), decide_eq_true h⟩
theorem grR_end {r : Rc} {i : Nat} (hi : i = r.wraps.length ∨ i = 20) (hi2 : i ≤ r.wraps.length) (hi3 : i ≤ 20) (h : ∀ j, j < i → ¬ 400 < (r.wraps.getD j default).box.length) : grR r = (decide (12 < r.wraps.length) || (decide (100 < r.prev.length) || decide (100 < r.tag.length))) := by
 have e : ((List.range (min r.wraps.length 20)).any fun i => decide (400 < (r.wraps.getD i default).box.length)) = false := by
  rw [List.any_eq_false]
  intro j hj
  rw [decide_eq_true_eq]
  exact h j (by have := List.mem_range.1 hj; omega)
 rw [grR, e, Bool.false_or]
attribute [local irreducible] wpK wpS seqK blockK loopF regK meetK OpSpec Le rdS lpW rdW got mayS mayW putS putW nb u64 PutW mwB sha rcF hdF hsh RG inF chC fl lkT grR
theorem great_good (Γ : Gl) (r : Rc) (hl : r.wraps.length ≤ 9223372036854775807) : Go.Ot.Good Γ prog 5 [.agg [.t (num r.seq), .t (txt r.prev), .t (num r.kind), .t (num r.dev), .t (.sl r.wraps.length (r.wraps.flatMap wpT)), .t (txt r.tag)]] [] (.t (bol (grR r))) [] [] := by
 refine a_body F.mix func5 (by rfl) ntmps5 ?_
 refine k_seq ?_
 refine k_region rfl ?_
 refine a_op ?_
 refine a_op ?_
 refine s_nil (r_false ?_)
 refine q_next ?_
 refine k_seq ?_
 refine k_seq ?_
 refine k_region rfl ?_
 refine a_op ?_
 refine s_nil (r_false ?_)
 refine q_next ?_
 refine k_block ?_
 refine k_loopF (fun sl L (i : Nat) => ⟨setAll (setBad sl [0, 2, 4, 5, 6, 7, 8, 9, 10, 11, 12, 13, 14, 15, 16, 17, 18, 19, 20, 21, 22]) [(3, .t (num i))], Go.Ot.look (L)⟩) (fun i => i ≤ r.wraps.length ∧ i ≤ 20 ∧ ∀ j, j < i → ¬ 400 < (r.wraps.getD j default).box.length) (fun i => r.wraps.length - i) (0) (a_le ?_) ?_ ?_
 ·refine le_same ?_ ?_ ?_ <;> simp [-List.map_set, -List.map_replicate, -List.reduceReplicate, -List.map_map, -List.map_drop, -List.map_take, num, bol, txt, w8, w16, w32, w64, lst, cls, rowO, boxO, List.take_of_length_le, Wr.cellsL_len, wA, Wr.k_mk, Wr.n_mk, Wr.s_mk, Wr.l_mk, Wr.cellsL, Wr.z_eq, rcT, wpT]
 ·exact ⟨Nat.zero_le _, Nat.zero_le _, fun j hj => by omega⟩
 ·rintro i ⟨hi, hi2, hI⟩
  refine a_st ?_
  refine k_seq ?_
  refine k_seq ?_
  refine k_region rfl ?_
  rcases (show i = r.wraps.length ∨ (i < r.wraps.length ∧ i = 20) ∨ (i < r.wraps.length ∧ i < 20) by omega) with h1 | ⟨h1, h2⟩ | ⟨h1, h2⟩
  ·skip
   iterate 6 refine a_op ?_
   refine a_no ?_
   refine a_no ?_
   refine a_op ?_
   refine s_nil (r_false ?_)
   refine q_next ?_
   refine a_false ?_
   refine k_exit ?_
   refine q_seq_exit (q_loopF_exit (q_block_exit (q_next ?_)))
   refine k_seq ?_
   refine k_region rfl ?_
   have hq0 := grR_end (r := r) (i := i) (by omega) hi hi2 hI
   clear hi2 hI
   rcases (show 12 < r.wraps.length ∨ (r.wraps.length ≤ 12 ∧ 100 < r.prev.length) ∨ (r.wraps.length ≤ 12 ∧ r.prev.length ≤ 100 ∧ 100 < r.tag.length) ∨ (r.wraps.length ≤ 12 ∧ r.prev.length ≤ 100 ∧ r.tag.length ≤ 100) by omega) with g | ⟨g, g2⟩ | ⟨g, g2, g3⟩ | ⟨g, g2, g3⟩
   ·have hq : grR r = true := by rw [hq0, decide_eq_true g]; rfl
    iterate 5 refine a_op ?_
    refine a_no ?_
    refine a_no ?_
    refine a_no ?_
    refine a_no ?_
    refine a_op ?_
    refine a_op ?_
    refine a_no ?_
    refine a_no ?_
    refine a_no ?_
    refine a_no ?_
    refine a_op ?_
    refine a_op ?_
    refine s_nil (r_false ?_)
    refine q_next ?_
    refine k_ret ?_
    refine ⟨.inr rfl, a_ret [] (by rw [results5]) ?_ ?_ ?_⟩ <;> simp [-List.map_set, -List.map_replicate, -List.reduceReplicate, -List.map_map, -List.map_drop, -List.map_take, num, bol, txt, w8, w16, w32, w64, lst, cls, rowO, boxO, List.take_of_length_le, Wr.cellsL_len, wA, Wr.k_mk, Wr.n_mk, Wr.s_mk, Wr.l_mk, Wr.cellsL, Wr.z_eq, rcT, wpT, hq]
   ·have hq : grR r = true := by rw [hq0, decide_eq_true g2, Bool.true_or, Bool.or_true]
    iterate 5 refine a_op ?_
    refine a_go ?_
    refine a_go ?_
    refine a_go ?_
    refine a_go ?_
    refine a_op ?_
    refine a_op ?_
    refine a_no ?_
    refine a_no ?_
    refine a_no ?_
    refine a_no ?_
    refine a_op ?_
    refine a_op ?_
    refine s_nil (r_false ?_)
    refine q_next ?_
    refine k_ret ?_
    refine ⟨.inr rfl, a_ret [] (by rw [results5]) ?_ ?_ ?_⟩ <;> simp [-List.map_set, -List.map_replicate, -List.reduceReplicate, -List.map_map, -List.map_drop, -List.map_take, num, bol, txt, w8, w16, w32, w64, lst, cls, rowO, boxO, List.take_of_length_le, Wr.cellsL_len, wA, Wr.k_mk, Wr.n_mk, Wr.s_mk, Wr.l_mk, Wr.cellsL, Wr.z_eq, rcT, wpT, hq]
   ·have hq : grR r = true := by rw [hq0, decide_eq_true g3, Bool.or_true, Bool.or_true]
    iterate 5 refine a_op ?_
    refine a_go ?_
    refine a_go ?_
    refine a_go ?_
    refine a_go ?_
    refine a_op ?_
    refine a_op ?_
    refine a_go ?_
    refine a_go ?_
    refine a_go ?_
    refine a_go ?_
    refine a_op ?_
    refine a_op ?_
    refine s_nil (r_false ?_)
    refine q_next ?_
    refine k_ret ?_
    refine ⟨.inr rfl, a_ret [] (by rw [results5]) ?_ ?_ ?_⟩ <;> simp [-List.map_set, -List.map_replicate, -List.reduceReplicate, -List.map_map, -List.map_drop, -List.map_take, num, bol, txt, w8, w16, w32, w64, lst, cls, rowO, boxO, List.take_of_length_le, Wr.cellsL_len, wA, Wr.k_mk, Wr.n_mk, Wr.s_mk, Wr.l_mk, Wr.cellsL, Wr.z_eq, rcT, wpT, hq]
   ·have hq : grR r = false := by rw [hq0, decide_eq_false (by omega), decide_eq_false (by omega), decide_eq_false (by omega)]; rfl
    iterate 5 refine a_op ?_
    refine a_go ?_
    refine a_go ?_
    refine a_go ?_
    refine a_go ?_
    refine a_op ?_
    refine a_op ?_
    refine a_go ?_
    refine a_go ?_
    refine a_go ?_
    refine a_go ?_
    refine a_op ?_
    refine a_op ?_
    refine s_nil (r_false ?_)
    refine q_next ?_
    refine k_ret ?_
    refine ⟨.inr rfl, a_ret [] (by rw [results5]) ?_ ?_ ?_⟩ <;> simp [-List.map_set, -List.map_replicate, -List.reduceReplicate, -List.map_map, -List.map_drop, -List.map_take, num, bol, txt, w8, w16, w32, w64, lst, cls, rowO, boxO, List.take_of_length_le, Wr.cellsL_len, wA, Wr.k_mk, Wr.n_mk, Wr.s_mk, Wr.l_mk, Wr.cellsL, Wr.z_eq, rcT, wpT, hq]
  ·skip
   iterate 6 refine a_op ?_
   refine a_go ?_
   refine a_go ?_
   refine a_op ?_
   refine s_nil (r_false ?_)
   refine q_next ?_
   refine a_false ?_
   refine k_exit ?_
   refine q_seq_exit (q_loopF_exit (q_block_exit (q_next ?_)))
   refine k_seq ?_
   refine k_region rfl ?_
   have hq0 := grR_end (r := r) (i := i) (by omega) hi hi2 hI
   have g : 12 < r.wraps.length := by omega
   ·have hq : grR r = true := by rw [hq0, decide_eq_true g]; rfl
    iterate 5 refine a_op ?_
    refine a_no ?_
    refine a_no ?_
    refine a_no ?_
    refine a_no ?_
    refine a_op ?_
    refine a_op ?_
    refine a_no ?_
    refine a_no ?_
    refine a_no ?_
    refine a_no ?_
    refine a_op ?_
    refine a_op ?_
    refine s_nil (r_false ?_)
    refine q_next ?_
    refine k_ret ?_
    refine ⟨.inr rfl, a_ret [] (by rw [results5]) ?_ ?_ ?_⟩ <;> simp [-List.map_set, -List.map_replicate, -List.reduceReplicate, -List.map_map, -List.map_drop, -List.map_take, num, bol, txt, w8, w16, w32, w64, lst, cls, rowO, boxO, List.take_of_length_le, Wr.cellsL_len, wA, Wr.k_mk, Wr.n_mk, Wr.s_mk, Wr.l_mk, Wr.cellsL, Wr.z_eq, rcT, wpT, hq]
  ·skip
   iterate 6 refine a_op ?_
   refine a_go ?_
   refine a_go ?_
   refine a_op ?_
   refine s_nil (r_false ?_)
   refine q_next ?_
   refine a_true ?_
   refine k_skip ?_
   refine q_next ?_
   refine k_seq ?_
   refine k_block ?_
   refine k_seq ?_
   refine k_region rfl ?_
   iterate 6 refine a_op ?_
   obtain ⟨e, he⟩ : ∃ e, r.wraps.getD i default = e := ⟨_, rfl⟩
   simp only [he]
   refine a_op ?_
   refine a_op ?_
   refine s_nil (r_false ?_)
   refine q_next ?_
   refine a_if (fun hc1 => ?_) (fun hc1 => ?_)
   ·(try simp only [Bool.and_eq_true, Bool.or_eq_true, Bool.or_eq_false_iff, Bool.not_eq_true', Bool.not_eq_false', dec_t, dec_f, Bool.and_eq_false_imp, beq_iff_eq, beq_eq_false_iff_ne, ne_eq] at hc1)
    have hq := grR_hit (r := r) (i := i) h1 h2 (by rw [show r.wraps.getD i default = e from he]; omega)
    refine k_seq ?_
    refine k_region rfl ?_
    refine a_op ?_
    refine s_nil (r_false ?_)
    refine q_next ?_
    refine k_ret ?_
    refine q_block_ret (q_seq_ret (q_loopF_ret (q_block_ret (q_seq_ret ?_))))
    refine ⟨.inr rfl, a_ret [] (by rw [results5]) ?_ ?_ ?_⟩ <;> simp [-List.map_set, -List.map_replicate, -List.reduceReplicate, -List.map_map, -List.map_drop, -List.map_take, num, bol, txt, w8, w16, w32, w64, lst, cls, rowO, boxO, List.take_of_length_le, Wr.cellsL_len, wA, Wr.k_mk, Wr.n_mk, Wr.s_mk, Wr.l_mk, Wr.cellsL, Wr.z_eq, rcT, wpT, hq]
   ·(try simp only [Bool.and_eq_true, Bool.or_eq_true, Bool.or_eq_false_iff, Bool.not_eq_true', Bool.not_eq_false', dec_t, dec_f, Bool.and_eq_false_imp, beq_iff_eq, beq_eq_false_iff_ne, ne_eq] at hc1)
    refine k_skip ?_
    refine q_block (q_next ?_)
    refine k_region rfl ?_
    iterate 3 refine a_op ?_
    refine s_nil (r_false ?_)
    refine q_loopF (i + 1) (a_le ?_) ?_ ?_
    ·refine le_same ?_ ?_ ?_ <;> simp [-List.map_set, -List.map_replicate, -List.reduceReplicate, -List.map_map, -List.map_drop, -List.map_take, num, bol, txt, w8, w16, w32, w64, lst, cls, rowO, boxO, List.take_of_length_le, Wr.cellsL_len, wA, Wr.k_mk, Wr.n_mk, Wr.s_mk, Wr.l_mk, Wr.cellsL, Wr.z_eq, rcT, wpT]
    ·exact ⟨by omega, by omega, fun j hj => by rcases (show j = i ∨ j < i by omega) with e' | e'; (subst e'; rw [show r.wraps.getD j default = e from he]; omega); exact hI j e'⟩
    ·omega

theorem rmayR_good (Γ : Gl) (r : Rc) (hl : r.wraps.length ≤ 9223372036854775807) : Go.Ot.Good Γ prog 20 [.agg [.t (num r.seq), .t (txt r.prev), .t (num r.kind), .t (num r.dev), .t (.sl r.wraps.length (r.wraps.flatMap wpT)), .t (txt r.tag)]] [] (.t (bol (rcB r))) [] [] := by
 refine a_body F.mix func20 (by rfl) ntmps20 ?_
 refine k_seq ?_
 refine k_region rfl ?_
 refine a_op ?_
 refine a_op ?_
 refine s_nil (r_false ?_)
 refine q_next ?_
 refine k_meetF (fun sl L (_u : Unit) => ⟨setAll (setBad sl [0, 2, 5, 6, 7, 8, 9, 10, 11, 12, 13, 14, 15, 16, 17, 18, 19, 20, 21, 22, 23, 24, 25, 26, 27, 28, 29, 30, 31, 32, 33, 34, 35, 36, 37, 38, 39, 40, 41, 42, 43, 44, 45, 46, 47, 48, 49, 50, 51, 52, 53, 54, 55, 56, 57, 58, 59]) [], Go.Ot.look (L)⟩) (fun _ => (1 ≤ r.seq ∧ r.seq ≤ 1048576) ∧ prevP r ∧ kindP r ∧ (0 ≤ r.dev ∧ r.dev < 8) ∧ tagP r) ?_ ?_
 ·skip
  refine k_seq ?_
  refine k_region rfl ?_
  have cP : (r.prev.length = 32 ∧ True) ∨ (r.prev.length ≠ 32 ∧ r.seq ≠ 1) ∨ (r.prev.length ≠ 32 ∧ r.seq = 1 ∧ r.prev = []) ∨ (r.prev.length ≠ 32 ∧ r.seq = 1 ∧ r.prev ≠ []) := by
   rcases Classical.em (r.prev = []) with h | h <;> rcases Classical.em (r.prev.length = 32) with h2 | h2 <;> rcases Classical.em (r.seq = 1) with h3 | h3 <;> simp [h, h2, h3]
  have cK : r.kind = 1 ∨ r.kind = 2 ∨ (r.kind ≠ 1 ∧ r.kind ≠ 2) := by omega
  have cD : r.dev < 0 ∨ (0 ≤ r.dev ∧ 8 ≤ r.dev) ∨ (0 ≤ r.dev ∧ r.dev < 8) := by omega
  have cT : (r.tag.length = 16 ∧ True) ∨ (r.tag.length ≠ 16 ∧ r.tag = []) ∨ (r.tag.length ≠ 16 ∧ r.tag ≠ []) := by
   rcases Classical.em (r.tag = []) with h | h <;> rcases Classical.em (r.tag.length = 16) with h2 | h2 <;> simp [h, h2]
  have hAll : (r.seq < 1) ∨ (1 ≤ r.seq ∧ 1048576 < r.seq) ∨ (1 ≤ r.seq ∧ r.seq ≤ 1048576 ∧ (r.prev.length ≠ 32 ∧ r.seq ≠ 1)) ∨ (1 ≤ r.seq ∧ r.seq ≤ 1048576 ∧ (r.prev.length ≠ 32 ∧ r.seq = 1 ∧ r.prev ≠ [])) ∨ (1 ≤ r.seq ∧ r.seq ≤ 1048576 ∧ (r.prev.length = 32 ∧ True) ∧ (r.kind ≠ 1 ∧ r.kind ≠ 2)) ∨ (1 ≤ r.seq ∧ r.seq ≤ 1048576 ∧ (r.prev.length = 32 ∧ True) ∧ r.kind = 1 ∧ r.dev < 0) ∨ (1 ≤ r.seq ∧ r.seq ≤ 1048576 ∧ (r.prev.length = 32 ∧ True) ∧ r.kind = 1 ∧ (0 ≤ r.dev ∧ 8 ≤ r.dev)) ∨ (1 ≤ r.seq ∧ r.seq ≤ 1048576 ∧ (r.prev.length = 32 ∧ True) ∧ r.kind = 1 ∧ (0 ≤ r.dev ∧ r.dev < 8) ∧ (r.tag.length = 16 ∧ True)) ∨ (1 ≤ r.seq ∧ r.seq ≤ 1048576 ∧ (r.prev.length = 32 ∧ True) ∧ r.kind = 1 ∧ (0 ≤ r.dev ∧ r.dev < 8) ∧ (r.tag.length ≠ 16 ∧ r.tag = [])) ∨ (1 ≤ r.seq ∧ r.seq ≤ 1048576 ∧ (r.prev.length = 32 ∧ True) ∧ r.kind = 1 ∧ (0 ≤ r.dev ∧ r.dev < 8) ∧ (r.tag.length ≠ 16 ∧ r.tag ≠ [])) ∨ (1 ≤ r.seq ∧ r.seq ≤ 1048576 ∧ (r.prev.length = 32 ∧ True) ∧ r.kind = 2 ∧ r.dev < 0) ∨ (1 ≤ r.seq ∧ r.seq ≤ 1048576 ∧ (r.prev.length = 32 ∧ True) ∧ r.kind = 2 ∧ (0 ≤ r.dev ∧ 8 ≤ r.dev)) ∨ (1 ≤ r.seq ∧ r.seq ≤ 1048576 ∧ (r.prev.length = 32 ∧ True) ∧ r.kind = 2 ∧ (0 ≤ r.dev ∧ r.dev < 8) ∧ (r.tag.length = 16 ∧ True)) ∨ (1 ≤ r.seq ∧ r.seq ≤ 1048576 ∧ (r.prev.length = 32 ∧ True) ∧ r.kind = 2 ∧ (0 ≤ r.dev ∧ r.dev < 8) ∧ (r.tag.length ≠ 16 ∧ r.tag = [])) ∨ (1 ≤ r.seq ∧ r.seq ≤ 1048576 ∧ (r.prev.length = 32 ∧ True) ∧ r.kind = 2 ∧ (0 ≤ r.dev ∧ r.dev < 8) ∧ (r.tag.length ≠ 16 ∧ r.tag ≠ [])) ∨ (1 ≤ r.seq ∧ r.seq ≤ 1048576 ∧ (r.prev.length ≠ 32 ∧ r.seq = 1 ∧ r.prev = []) ∧ (r.kind ≠ 1 ∧ r.kind ≠ 2)) ∨ (1 ≤ r.seq ∧ r.seq ≤ 1048576 ∧ (r.prev.length ≠ 32 ∧ r.seq = 1 ∧ r.prev = []) ∧ r.kind = 1 ∧ r.dev < 0) ∨ (1 ≤ r.seq ∧ r.seq ≤ 1048576 ∧ (r.prev.length ≠ 32 ∧ r.seq = 1 ∧ r.prev = []) ∧ r.kind = 1 ∧ (0 ≤ r.dev ∧ 8 ≤ r.dev)) ∨ (1 ≤ r.seq ∧ r.seq ≤ 1048576 ∧ (r.prev.length ≠ 32 ∧ r.seq = 1 ∧ r.prev = []) ∧ r.kind = 1 ∧ (0 ≤ r.dev ∧ r.dev < 8) ∧ (r.tag.length = 16 ∧ True)) ∨ (1 ≤ r.seq ∧ r.seq ≤ 1048576 ∧ (r.prev.length ≠ 32 ∧ r.seq = 1 ∧ r.prev = []) ∧ r.kind = 1 ∧ (0 ≤ r.dev ∧ r.dev < 8) ∧ (r.tag.length ≠ 16 ∧ r.tag = [])) ∨ (1 ≤ r.seq ∧ r.seq ≤ 1048576 ∧ (r.prev.length ≠ 32 ∧ r.seq = 1 ∧ r.prev = []) ∧ r.kind = 1 ∧ (0 ≤ r.dev ∧ r.dev < 8) ∧ (r.tag.length ≠ 16 ∧ r.tag ≠ [])) ∨ (1 ≤ r.seq ∧ r.seq ≤ 1048576 ∧ (r.prev.length ≠ 32 ∧ r.seq = 1 ∧ r.prev = []) ∧ r.kind = 2 ∧ r.dev < 0) ∨ (1 ≤ r.seq ∧ r.seq ≤ 1048576 ∧ (r.prev.length ≠ 32 ∧ r.seq = 1 ∧ r.prev = []) ∧ r.kind = 2 ∧ (0 ≤ r.dev ∧ 8 ≤ r.dev)) ∨ (1 ≤ r.seq ∧ r.seq ≤ 1048576 ∧ (r.prev.length ≠ 32 ∧ r.seq = 1 ∧ r.prev = []) ∧ r.kind = 2 ∧ (0 ≤ r.dev ∧ r.dev < 8) ∧ (r.tag.length = 16 ∧ True)) ∨ (1 ≤ r.seq ∧ r.seq ≤ 1048576 ∧ (r.prev.length ≠ 32 ∧ r.seq = 1 ∧ r.prev = []) ∧ r.kind = 2 ∧ (0 ≤ r.dev ∧ r.dev < 8) ∧ (r.tag.length ≠ 16 ∧ r.tag = [])) ∨ (1 ≤ r.seq ∧ r.seq ≤ 1048576 ∧ (r.prev.length ≠ 32 ∧ r.seq = 1 ∧ r.prev = []) ∧ r.kind = 2 ∧ (0 ≤ r.dev ∧ r.dev < 8) ∧ (r.tag.length ≠ 16 ∧ r.tag ≠ [])) := by
   rcases (show r.seq < 1 ∨ (1 ≤ r.seq ∧ 1048576 < r.seq) ∨ (1 ≤ r.seq ∧ r.seq ≤ 1048576) by omega) with hs | ⟨hs, hs2⟩ | ⟨hs, hs2⟩
   ·exact .inl (hs)
   ·exact .inr (.inl (⟨hs, hs2⟩))
   ·rcases cP with hp | hp | hp | hp
    ·rcases cK with hk | hk | hk
     ·rcases cD with hd | hd | hd
      ·exact .inr (.inr (.inr (.inr (.inr (.inl (⟨hs, hs2, hp, hk, hd⟩))))))
      ·exact .inr (.inr (.inr (.inr (.inr (.inr (.inl (⟨hs, hs2, hp, hk, hd⟩)))))))
      ·rcases cT with ht | ht | ht
       ·exact .inr (.inr (.inr (.inr (.inr (.inr (.inr (.inl (⟨hs, hs2, hp, hk, hd, ht⟩))))))))
       ·exact .inr (.inr (.inr (.inr (.inr (.inr (.inr (.inr (.inl (⟨hs, hs2, hp, hk, hd, ht⟩)))))))))
       ·exact .inr (.inr (.inr (.inr (.inr (.inr (.inr (.inr (.inr (.inl (⟨hs, hs2, hp, hk, hd, ht⟩))))))))))
     ·rcases cD with hd | hd | hd
      ·exact .inr (.inr (.inr (.inr (.inr (.inr (.inr (.inr (.inr (.inr (.inl (⟨hs, hs2, hp, hk, hd⟩)))))))))))
      ·exact .inr (.inr (.inr (.inr (.inr (.inr (.inr (.inr (.inr (.inr (.inr (.inl (⟨hs, hs2, hp, hk, hd⟩))))))))))))
      ·rcases cT with ht | ht | ht
       ·exact .inr (.inr (.inr (.inr (.inr (.inr (.inr (.inr (.inr (.inr (.inr (.inr (.inl (⟨hs, hs2, hp, hk, hd, ht⟩)))))))))))))
       ·exact .inr (.inr (.inr (.inr (.inr (.inr (.inr (.inr (.inr (.inr (.inr (.inr (.inr (.inl (⟨hs, hs2, hp, hk, hd, ht⟩))))))))))))))
       ·exact .inr (.inr (.inr (.inr (.inr (.inr (.inr (.inr (.inr (.inr (.inr (.inr (.inr (.inr (.inl (⟨hs, hs2, hp, hk, hd, ht⟩)))))))))))))))
     ·exact .inr (.inr (.inr (.inr (.inl (⟨hs, hs2, hp, hk⟩)))))
    ·exact .inr (.inr (.inl (⟨hs, hs2, hp⟩)))
    ·rcases cK with hk | hk | hk
     ·rcases cD with hd | hd | hd
      ·exact .inr (.inr (.inr (.inr (.inr (.inr (.inr (.inr (.inr (.inr (.inr (.inr (.inr (.inr (.inr (.inr (.inl (⟨hs, hs2, hp, hk, hd⟩)))))))))))))))))
      ·exact .inr (.inr (.inr (.inr (.inr (.inr (.inr (.inr (.inr (.inr (.inr (.inr (.inr (.inr (.inr (.inr (.inr (.inl (⟨hs, hs2, hp, hk, hd⟩))))))))))))))))))
      ·rcases cT with ht | ht | ht
       ·exact .inr (.inr (.inr (.inr (.inr (.inr (.inr (.inr (.inr (.inr (.inr (.inr (.inr (.inr (.inr (.inr (.inr (.inr (.inl (⟨hs, hs2, hp, hk, hd, ht⟩)))))))))))))))))))
       ·exact .inr (.inr (.inr (.inr (.inr (.inr (.inr (.inr (.inr (.inr (.inr (.inr (.inr (.inr (.inr (.inr (.inr (.inr (.inr (.inl (⟨hs, hs2, hp, hk, hd, ht⟩))))))))))))))))))))
       ·exact .inr (.inr (.inr (.inr (.inr (.inr (.inr (.inr (.inr (.inr (.inr (.inr (.inr (.inr (.inr (.inr (.inr (.inr (.inr (.inr (.inl (⟨hs, hs2, hp, hk, hd, ht⟩)))))))))))))))))))))
     ·rcases cD with hd | hd | hd
      ·exact .inr (.inr (.inr (.inr (.inr (.inr (.inr (.inr (.inr (.inr (.inr (.inr (.inr (.inr (.inr (.inr (.inr (.inr (.inr (.inr (.inr (.inl (⟨hs, hs2, hp, hk, hd⟩))))))))))))))))))))))
      ·exact .inr (.inr (.inr (.inr (.inr (.inr (.inr (.inr (.inr (.inr (.inr (.inr (.inr (.inr (.inr (.inr (.inr (.inr (.inr (.inr (.inr (.inr (.inl (⟨hs, hs2, hp, hk, hd⟩)))))))))))))))))))))))
      ·rcases cT with ht | ht | ht
       ·exact .inr (.inr (.inr (.inr (.inr (.inr (.inr (.inr (.inr (.inr (.inr (.inr (.inr (.inr (.inr (.inr (.inr (.inr (.inr (.inr (.inr (.inr (.inr (.inl (⟨hs, hs2, hp, hk, hd, ht⟩))))))))))))))))))))))))
       ·exact .inr (.inr (.inr (.inr (.inr (.inr (.inr (.inr (.inr (.inr (.inr (.inr (.inr (.inr (.inr (.inr (.inr (.inr (.inr (.inr (.inr (.inr (.inr (.inr (.inl (⟨hs, hs2, hp, hk, hd, ht⟩)))))))))))))))))))))))))
       ·exact .inr (.inr (.inr (.inr (.inr (.inr (.inr (.inr (.inr (.inr (.inr (.inr (.inr (.inr (.inr (.inr (.inr (.inr (.inr (.inr (.inr (.inr (.inr (.inr (.inr (⟨hs, hs2, hp, hk, hd, ht⟩)))))))))))))))))))))))))
     ·exact .inr (.inr (.inr (.inr (.inr (.inr (.inr (.inr (.inr (.inr (.inr (.inr (.inr (.inr (.inr (.inl (⟨hs, hs2, hp, hk⟩))))))))))))))))
    ·exact .inr (.inr (.inr (.inl (⟨hs, hs2, hp⟩))))
  clear cP cK cD cT
  rcases hAll with hs | ⟨hs, hs2⟩ | ⟨hs, hs2, hp⟩ | ⟨hs, hs2, hp⟩ | ⟨hs, hs2, hp, hk⟩ | ⟨hs, hs2, hp, hk, hd⟩ | ⟨hs, hs2, hp, hk, hd⟩ | ⟨hs, hs2, hp, hk, hd, ht⟩ | ⟨hs, hs2, hp, hk, hd, ht⟩ | ⟨hs, hs2, hp, hk, hd, ht⟩ | ⟨hs, hs2, hp, hk, hd⟩ | ⟨hs, hs2, hp, hk, hd⟩ | ⟨hs, hs2, hp, hk, hd, ht⟩ | ⟨hs, hs2, hp, hk, hd, ht⟩ | ⟨hs, hs2, hp, hk, hd, ht⟩ | ⟨hs, hs2, hp, hk⟩ | ⟨hs, hs2, hp, hk, hd⟩ | ⟨hs, hs2, hp, hk, hd⟩ | ⟨hs, hs2, hp, hk, hd, ht⟩ | ⟨hs, hs2, hp, hk, hd, ht⟩ | ⟨hs, hs2, hp, hk, hd, ht⟩ | ⟨hs, hs2, hp, hk, hd⟩ | ⟨hs, hs2, hp, hk, hd⟩ | ⟨hs, hs2, hp, hk, hd, ht⟩ | ⟨hs, hs2, hp, hk, hd, ht⟩ | ⟨hs, hs2, hp, hk, hd, ht⟩
  ·have hq : rcB r = false := rcB_f (fun h => by
    have := h.1; have := h.2.1; omega)
   iterate 4 refine a_op ?_
   refine a_no ?_
   refine a_no ?_
   refine a_no ?_
   refine a_op ?_
   refine a_op ?_
   refine a_no ?_
   refine a_no ?_
   refine a_no ?_
   refine a_no ?_
   refine a_no ?_
   refine a_no ?_
   refine a_no ?_
   refine a_no ?_
   refine a_no ?_
   refine a_no ?_
   refine a_no ?_
   refine a_no ?_
   refine a_no ?_
   refine a_no ?_
   refine a_op ?_
   refine a_op ?_
   refine a_no ?_
   refine a_no ?_
   refine a_no ?_
   refine a_no ?_
   refine a_no ?_
   refine a_no ?_
   refine a_no ?_
   refine a_no ?_
   refine a_op ?_
   refine a_op ?_
   refine a_no ?_
   refine a_no ?_
   refine a_no ?_
   refine a_op ?_
   refine a_op ?_
   refine a_no ?_
   refine a_no ?_
   refine a_no ?_
   refine a_op ?_
   refine a_op ?_
   refine a_no ?_
   refine a_no ?_
   refine a_no ?_
   refine a_no ?_
   refine a_no ?_
   refine a_no ?_
   refine a_no ?_
   refine a_no ?_
   refine a_no ?_
   refine a_op ?_
   refine s_nil (r_false ?_)
   refine q_next ?_
   refine a_true ?_
   refine k_seq ?_
   refine k_region rfl ?_
   refine a_op ?_
   refine s_nil (r_false ?_)
   refine q_next ?_
   refine k_ret ?_
   refine q_meetF_ret ?_
   refine ⟨.inr rfl, a_ret [] (by rw [results20]) ?_ ?_ ?_⟩ <;> simp [-List.map_set, -List.map_replicate, -List.reduceReplicate, -List.map_map, -List.map_drop, -List.map_take, num, bol, txt, w8, w16, w32, w64, lst, cls, rowO, boxO, List.take_of_length_le, Wr.cellsL_len, wA, Wr.k_mk, Wr.n_mk, Wr.s_mk, Wr.l_mk, Wr.cellsL, Wr.z_eq, rcT, wpT, hq]
  ·have hq : rcB r = false := rcB_f (fun h => by
    have := h.1; have := h.2.1; omega)
   iterate 4 refine a_op ?_
   refine a_go ?_
   refine a_go ?_
   refine a_go ?_
   refine a_op ?_
   refine a_op ?_
   refine a_no ?_
   refine a_no ?_
   refine a_no ?_
   refine a_no ?_
   refine a_no ?_
   refine a_no ?_
   refine a_no ?_
   refine a_no ?_
   refine a_no ?_
   refine a_no ?_
   refine a_no ?_
   refine a_no ?_
   refine a_no ?_
   refine a_no ?_
   refine a_op ?_
   refine a_op ?_
   refine a_no ?_
   refine a_no ?_
   refine a_no ?_
   refine a_no ?_
   refine a_no ?_
   refine a_no ?_
   refine a_no ?_
   refine a_no ?_
   refine a_op ?_
   refine a_op ?_
   refine a_no ?_
   refine a_no ?_
   refine a_no ?_
   refine a_op ?_
   refine a_op ?_
   refine a_no ?_
   refine a_no ?_
   refine a_no ?_
   refine a_op ?_
   refine a_op ?_
   refine a_no ?_
   refine a_no ?_
   refine a_no ?_
   refine a_no ?_
   refine a_no ?_
   refine a_no ?_
   refine a_no ?_
   refine a_no ?_
   refine a_no ?_
   refine a_op ?_
   refine s_nil (r_false ?_)
   refine q_next ?_
   refine a_true ?_
   refine k_seq ?_
   refine k_region rfl ?_
   refine a_op ?_
   refine s_nil (r_false ?_)
   refine q_next ?_
   refine k_ret ?_
   refine q_meetF_ret ?_
   refine ⟨.inr rfl, a_ret [] (by rw [results20]) ?_ ?_ ?_⟩ <;> simp [-List.map_set, -List.map_replicate, -List.reduceReplicate, -List.map_map, -List.map_drop, -List.map_take, num, bol, txt, w8, w16, w32, w64, lst, cls, rowO, boxO, List.take_of_length_le, Wr.cellsL_len, wA, Wr.k_mk, Wr.n_mk, Wr.s_mk, Wr.l_mk, Wr.cellsL, Wr.z_eq, rcT, wpT, hq]
  ·have hq : rcB r = false := rcB_f (fun h => by
    rcases h.2.2.1 with g | ⟨g, g2⟩
    ·exact hp.1 g
    ·exact hp.2 g)
   iterate 4 refine a_op ?_
   refine a_go ?_
   refine a_go ?_
   refine a_go ?_
   refine a_op ?_
   refine a_op ?_
   refine a_go ?_
   refine a_go ?_
   refine a_go ?_
   refine a_go ?_
   refine a_go ?_
   refine a_go ?_
   refine a_go ?_
   refine a_go ?_
   refine a_go ?_
   refine a_no ?_
   refine a_no ?_
   refine a_no ?_
   refine a_go ?_
   refine a_go ?_
   refine a_op ?_
   refine a_op ?_
   refine a_no ?_
   refine a_no ?_
   refine a_no ?_
   refine a_no ?_
   refine a_no ?_
   refine a_no ?_
   refine a_no ?_
   refine a_no ?_
   refine a_op ?_
   refine a_op ?_
   refine a_no ?_
   refine a_no ?_
   refine a_no ?_
   refine a_op ?_
   refine a_op ?_
   refine a_no ?_
   refine a_no ?_
   refine a_no ?_
   refine a_op ?_
   refine a_op ?_
   refine a_no ?_
   refine a_no ?_
   refine a_no ?_
   refine a_no ?_
   refine a_no ?_
   refine a_no ?_
   refine a_no ?_
   refine a_no ?_
   refine a_no ?_
   refine a_op ?_
   refine s_nil (r_false ?_)
   refine q_next ?_
   refine a_true ?_
   refine k_seq ?_
   refine k_region rfl ?_
   refine a_op ?_
   refine s_nil (r_false ?_)
   refine q_next ?_
   refine k_ret ?_
   refine q_meetF_ret ?_
   refine ⟨.inr rfl, a_ret [] (by rw [results20]) ?_ ?_ ?_⟩ <;> simp [-List.map_set, -List.map_replicate, -List.reduceReplicate, -List.map_map, -List.map_drop, -List.map_take, num, bol, txt, w8, w16, w32, w64, lst, cls, rowO, boxO, List.take_of_length_le, Wr.cellsL_len, wA, Wr.k_mk, Wr.n_mk, Wr.s_mk, Wr.l_mk, Wr.cellsL, Wr.z_eq, rcT, wpT, hq]
  ·have hq : rcB r = false := rcB_f (fun h => by
    rcases h.2.2.1 with g | ⟨g, g2⟩
    ·exact hp.1 g
    ·exact hp.2.2 g2)
   iterate 4 refine a_op ?_
   refine a_go ?_
   refine a_go ?_
   refine a_go ?_
   refine a_op ?_
   refine a_op ?_
   refine a_go ?_
   refine a_go ?_
   refine a_go ?_
   refine a_go ?_
   refine a_go ?_
   refine a_go ?_
   refine a_go ?_
   refine a_go ?_
   refine a_go ?_
   refine a_go ?_
   refine a_go ?_
   refine a_go (hs := by (simp (disch := omega) only [push_cast, reduceCtorEq, beq_nil_ne hp.2.2] <;> rfl)) ?_
   refine a_go ?_
   refine a_go ?_
   refine a_op ?_
   refine a_op ?_
   refine a_no ?_
   refine a_no ?_
   refine a_no ?_
   refine a_no ?_
   refine a_no ?_
   refine a_no ?_
   refine a_no ?_
   refine a_no ?_
   refine a_op ?_
   refine a_op ?_
   refine a_no ?_
   refine a_no ?_
   refine a_no ?_
   refine a_op ?_
   refine a_op ?_
   refine a_no ?_
   refine a_no ?_
   refine a_no ?_
   refine a_op ?_
   refine a_op ?_
   refine a_no ?_
   refine a_no ?_
   refine a_no ?_
   refine a_no ?_
   refine a_no ?_
   refine a_no ?_
   refine a_no ?_
   refine a_no ?_
   refine a_no ?_
   refine a_op ?_
   refine s_nil (r_false ?_)
   refine q_next ?_
   refine a_true ?_
   refine k_seq ?_
   refine k_region rfl ?_
   refine a_op ?_
   refine s_nil (r_false ?_)
   refine q_next ?_
   refine k_ret ?_
   refine q_meetF_ret ?_
   refine ⟨.inr rfl, a_ret [] (by rw [results20]) ?_ ?_ ?_⟩ <;> simp [-List.map_set, -List.map_replicate, -List.reduceReplicate, -List.map_map, -List.map_drop, -List.map_take, num, bol, txt, w8, w16, w32, w64, lst, cls, rowO, boxO, List.take_of_length_le, Wr.cellsL_len, wA, Wr.k_mk, Wr.n_mk, Wr.s_mk, Wr.l_mk, Wr.cellsL, Wr.z_eq, rcT, wpT, hq]
  ·have hq : rcB r = false := rcB_f (fun h => by
    rcases h.2.2.2.1 with g | g
    ·exact hk.1 g
    ·exact hk.2 g)
   iterate 4 refine a_op ?_
   refine a_go ?_
   refine a_go ?_
   refine a_go ?_
   refine a_op ?_
   refine a_op ?_
   refine a_go ?_
   refine a_go ?_
   refine a_go ?_
   refine a_go ?_
   refine a_go ?_
   refine a_no ?_
   refine a_no ?_
   refine a_no ?_
   refine a_no ?_
   refine a_no ?_
   refine a_no ?_
   refine a_no ?_
   refine a_no ?_
   refine a_go ?_
   refine a_op ?_
   refine a_op ?_
   refine a_go ?_
   refine a_go ?_
   refine a_go ?_
   refine a_go ?_
   refine a_go ?_
   refine a_go ?_
   refine a_go ?_
   refine a_go ?_
   refine a_op ?_
   refine a_op ?_
   refine a_no ?_
   refine a_no ?_
   refine a_no ?_
   refine a_op ?_
   refine a_op ?_
   refine a_no ?_
   refine a_no ?_
   refine a_no ?_
   refine a_op ?_
   refine a_op ?_
   refine a_no ?_
   refine a_no ?_
   refine a_no ?_
   refine a_no ?_
   refine a_no ?_
   refine a_no ?_
   refine a_no ?_
   refine a_no ?_
   refine a_no ?_
   refine a_op ?_
   refine s_nil (r_false ?_)
   refine q_next ?_
   refine a_true ?_
   refine k_seq ?_
   refine k_region rfl ?_
   refine a_op ?_
   refine s_nil (r_false ?_)
   refine q_next ?_
   refine k_ret ?_
   refine q_meetF_ret ?_
   refine ⟨.inr rfl, a_ret [] (by rw [results20]) ?_ ?_ ?_⟩ <;> simp [-List.map_set, -List.map_replicate, -List.reduceReplicate, -List.map_map, -List.map_drop, -List.map_take, num, bol, txt, w8, w16, w32, w64, lst, cls, rowO, boxO, List.take_of_length_le, Wr.cellsL_len, wA, Wr.k_mk, Wr.n_mk, Wr.s_mk, Wr.l_mk, Wr.cellsL, Wr.z_eq, rcT, wpT, hq]
  ·have hq : rcB r = false := rcB_f (fun h => by
    have := h.2.2.2.2.1; omega)
   iterate 4 refine a_op ?_
   refine a_go ?_
   refine a_go ?_
   refine a_go ?_
   refine a_op ?_
   refine a_op ?_
   refine a_go ?_
   refine a_go ?_
   refine a_go ?_
   refine a_go ?_
   refine a_go ?_
   refine a_no ?_
   refine a_no ?_
   refine a_no ?_
   refine a_no ?_
   refine a_no ?_
   refine a_no ?_
   refine a_no ?_
   refine a_no ?_
   refine a_go ?_
   refine a_op ?_
   refine a_op ?_
   refine a_go ?_
   refine a_go ?_
   refine a_go ?_
   refine a_go ?_
   refine a_no ?_
   refine a_no ?_
   refine a_no ?_
   refine a_go ?_
   refine a_op ?_
   refine a_op ?_
   refine a_go ?_
   refine a_go ?_
   refine a_go ?_
   refine a_op ?_
   refine a_op ?_
   refine a_no ?_
   refine a_no ?_
   refine a_no ?_
   refine a_op ?_
   refine a_op ?_
   refine a_no ?_
   refine a_no ?_
   refine a_no ?_
   refine a_no ?_
   refine a_no ?_
   refine a_no ?_
   refine a_no ?_
   refine a_no ?_
   refine a_no ?_
   refine a_op ?_
   refine s_nil (r_false ?_)
   refine q_next ?_
   refine a_true ?_
   refine k_seq ?_
   refine k_region rfl ?_
   refine a_op ?_
   refine s_nil (r_false ?_)
   refine q_next ?_
   refine k_ret ?_
   refine q_meetF_ret ?_
   refine ⟨.inr rfl, a_ret [] (by rw [results20]) ?_ ?_ ?_⟩ <;> simp [-List.map_set, -List.map_replicate, -List.reduceReplicate, -List.map_map, -List.map_drop, -List.map_take, num, bol, txt, w8, w16, w32, w64, lst, cls, rowO, boxO, List.take_of_length_le, Wr.cellsL_len, wA, Wr.k_mk, Wr.n_mk, Wr.s_mk, Wr.l_mk, Wr.cellsL, Wr.z_eq, rcT, wpT, hq]
  ·have hq : rcB r = false := rcB_f (fun h => by
    have := h.2.2.2.2.1; omega)
   iterate 4 refine a_op ?_
   refine a_go ?_
   refine a_go ?_
   refine a_go ?_
   refine a_op ?_
   refine a_op ?_
   refine a_go ?_
   refine a_go ?_
   refine a_go ?_
   refine a_go ?_
   refine a_go ?_
   refine a_no ?_
   refine a_no ?_
   refine a_no ?_
   refine a_no ?_
   refine a_no ?_
   refine a_no ?_
   refine a_no ?_
   refine a_no ?_
   refine a_go ?_
   refine a_op ?_
   refine a_op ?_
   refine a_go ?_
   refine a_go ?_
   refine a_go ?_
   refine a_go ?_
   refine a_no ?_
   refine a_no ?_
   refine a_no ?_
   refine a_go ?_
   refine a_op ?_
   refine a_op ?_
   refine a_go ?_
   refine a_go ?_
   refine a_go ?_
   refine a_op ?_
   refine a_op ?_
   refine a_go ?_
   refine a_go ?_
   refine a_go ?_
   refine a_op ?_
   refine a_op ?_
   refine a_no ?_
   refine a_no ?_
   refine a_no ?_
   refine a_no ?_
   refine a_no ?_
   refine a_no ?_
   refine a_no ?_
   refine a_no ?_
   refine a_no ?_
   refine a_op ?_
   refine s_nil (r_false ?_)
   refine q_next ?_
   refine a_true ?_
   refine k_seq ?_
   refine k_region rfl ?_
   refine a_op ?_
   refine s_nil (r_false ?_)
   refine q_next ?_
   refine k_ret ?_
   refine q_meetF_ret ?_
   refine ⟨.inr rfl, a_ret [] (by rw [results20]) ?_ ?_ ?_⟩ <;> simp [-List.map_set, -List.map_replicate, -List.reduceReplicate, -List.map_map, -List.map_drop, -List.map_take, num, bol, txt, w8, w16, w32, w64, lst, cls, rowO, boxO, List.take_of_length_le, Wr.cellsL_len, wA, Wr.k_mk, Wr.n_mk, Wr.s_mk, Wr.l_mk, Wr.cellsL, Wr.z_eq, rcT, wpT, hq]
  ·have hP : prevP r := .inl hp.1
   have hD : 0 ≤ r.dev ∧ r.dev < 8 := hd
   have hK : kindP r := .inl hk
   have hT : tagP r := .inr ht.1
   have hPs := hp
   have hTs := ht
   iterate 4 refine a_op ?_
   refine a_go ?_
   refine a_go ?_
   refine a_go ?_
   refine a_op ?_
   refine a_op ?_
   refine a_go ?_
   refine a_go ?_
   refine a_go ?_
   refine a_go ?_
   refine a_go ?_
   refine a_no ?_
   refine a_no ?_
   refine a_no ?_
   refine a_no ?_
   refine a_no ?_
   refine a_no ?_
   refine a_no ?_
   refine a_no ?_
   refine a_go ?_
   refine a_op ?_
   refine a_op ?_
   refine a_go ?_
   refine a_go ?_
   refine a_go ?_
   refine a_go ?_
   refine a_no ?_
   refine a_no ?_
   refine a_no ?_
   refine a_go ?_
   refine a_op ?_
   refine a_op ?_
   refine a_go ?_
   refine a_go ?_
   refine a_go ?_
   refine a_op ?_
   refine a_op ?_
   refine a_go ?_
   refine a_go ?_
   refine a_go ?_
   refine a_op ?_
   refine a_op ?_
   refine a_go ?_
   refine a_go ?_
   refine a_go ?_
   refine a_go ?_
   refine a_go ?_
   refine a_no ?_
   refine a_no ?_
   refine a_no ?_
   refine a_go ?_
   refine a_op ?_
   refine s_nil (r_false ?_)
   refine q_next ?_
   refine a_false ?_
   refine k_skip ?_
   refine q_meetF (()) (a_le ?_) ?_
   ·refine le_same ?_ ?_ ?_ <;> simp [-List.map_set, -List.map_replicate, -List.reduceReplicate, -List.map_map, -List.map_drop, -List.map_take, num, bol, txt, w8, w16, w32, w64, lst, cls, rowO, boxO, List.take_of_length_le, Wr.cellsL_len, wA, Wr.k_mk, Wr.n_mk, Wr.s_mk, Wr.l_mk, Wr.cellsL, Wr.z_eq, rcT, wpT]
   ·exact ⟨⟨hs, hs2⟩, hP, hK, hD, hT⟩
  ·have hP : prevP r := .inl hp.1
   have hD : 0 ≤ r.dev ∧ r.dev < 8 := hd
   have hK : kindP r := .inl hk
   have hT : tagP r := .inl ht.2
   have hPs := hp
   have hTs := ht
   iterate 4 refine a_op ?_
   refine a_go ?_
   refine a_go ?_
   refine a_go ?_
   refine a_op ?_
   refine a_op ?_
   refine a_go ?_
   refine a_go ?_
   refine a_go ?_
   refine a_go ?_
   refine a_go ?_
   refine a_no ?_
   refine a_no ?_
   refine a_no ?_
   refine a_no ?_
   refine a_no ?_
   refine a_no ?_
   refine a_no ?_
   refine a_no ?_
   refine a_go ?_
   refine a_op ?_
   refine a_op ?_
   refine a_go ?_
   refine a_go ?_
   refine a_go ?_
   refine a_go ?_
   refine a_no ?_
   refine a_no ?_
   refine a_no ?_
   refine a_go ?_
   refine a_op ?_
   refine a_op ?_
   refine a_go ?_
   refine a_go ?_
   refine a_go ?_
   refine a_op ?_
   refine a_op ?_
   refine a_go ?_
   refine a_go ?_
   refine a_go ?_
   refine a_op ?_
   refine a_op ?_
   refine a_go ?_
   refine a_go ?_
   refine a_go ?_
   refine a_go ?_
   refine a_go ?_
   refine a_go ?_
   refine a_go ?_
   refine a_go (hs := by (simp (disch := omega) only [push_cast, reduceCtorEq, ht.2, beq_self_eq_true] <;> rfl)) ?_
   refine a_go ?_
   refine a_op ?_
   refine s_nil (r_false ?_)
   refine q_next ?_
   refine a_false ?_
   refine k_skip ?_
   refine q_meetF (()) (a_le ?_) ?_
   ·refine le_same ?_ ?_ ?_ <;> simp [-List.map_set, -List.map_replicate, -List.reduceReplicate, -List.map_map, -List.map_drop, -List.map_take, num, bol, txt, w8, w16, w32, w64, lst, cls, rowO, boxO, List.take_of_length_le, Wr.cellsL_len, wA, Wr.k_mk, Wr.n_mk, Wr.s_mk, Wr.l_mk, Wr.cellsL, Wr.z_eq, rcT, wpT]
   ·exact ⟨⟨hs, hs2⟩, hP, hK, hD, hT⟩
  ·have hq : rcB r = false := rcB_f (fun h => by
    rcases h.2.2.2.2.2.1 with g | g
    ·exact ht.2 g
    ·exact ht.1 g)
   iterate 4 refine a_op ?_
   refine a_go ?_
   refine a_go ?_
   refine a_go ?_
   refine a_op ?_
   refine a_op ?_
   refine a_go ?_
   refine a_go ?_
   refine a_go ?_
   refine a_go ?_
   refine a_go ?_
   refine a_no ?_
   refine a_no ?_
   refine a_no ?_
   refine a_no ?_
   refine a_no ?_
   refine a_no ?_
   refine a_no ?_
   refine a_no ?_
   refine a_go ?_
   refine a_op ?_
   refine a_op ?_
   refine a_go ?_
   refine a_go ?_
   refine a_go ?_
   refine a_go ?_
   refine a_no ?_
   refine a_no ?_
   refine a_no ?_
   refine a_go ?_
   refine a_op ?_
   refine a_op ?_
   refine a_go ?_
   refine a_go ?_
   refine a_go ?_
   refine a_op ?_
   refine a_op ?_
   refine a_go ?_
   refine a_go ?_
   refine a_go ?_
   refine a_op ?_
   refine a_op ?_
   refine a_go ?_
   refine a_go ?_
   refine a_go ?_
   refine a_go ?_
   refine a_go ?_
   refine a_go ?_
   refine a_go ?_
   refine a_go (hs := by (simp (disch := omega) only [push_cast, reduceCtorEq, beq_nil_ne ht.2] <;> rfl)) ?_
   refine a_go ?_
   refine a_op ?_
   refine s_nil (r_false ?_)
   refine q_next ?_
   refine a_true ?_
   refine k_seq ?_
   refine k_region rfl ?_
   refine a_op ?_
   refine s_nil (r_false ?_)
   refine q_next ?_
   refine k_ret ?_
   refine q_meetF_ret ?_
   refine ⟨.inr rfl, a_ret [] (by rw [results20]) ?_ ?_ ?_⟩ <;> simp [-List.map_set, -List.map_replicate, -List.reduceReplicate, -List.map_map, -List.map_drop, -List.map_take, num, bol, txt, w8, w16, w32, w64, lst, cls, rowO, boxO, List.take_of_length_le, Wr.cellsL_len, wA, Wr.k_mk, Wr.n_mk, Wr.s_mk, Wr.l_mk, Wr.cellsL, Wr.z_eq, rcT, wpT, hq]
  ·have hq : rcB r = false := rcB_f (fun h => by
    have := h.2.2.2.2.1; omega)
   iterate 4 refine a_op ?_
   refine a_go ?_
   refine a_go ?_
   refine a_go ?_
   refine a_op ?_
   refine a_op ?_
   refine a_go ?_
   refine a_go ?_
   refine a_go ?_
   refine a_go ?_
   refine a_go ?_
   refine a_no ?_
   refine a_no ?_
   refine a_no ?_
   refine a_no ?_
   refine a_no ?_
   refine a_no ?_
   refine a_no ?_
   refine a_no ?_
   refine a_go ?_
   refine a_op ?_
   refine a_op ?_
   refine a_go ?_
   refine a_go ?_
   refine a_go ?_
   refine a_go ?_
   refine a_go ?_
   refine a_go ?_
   refine a_go ?_
   refine a_go ?_
   refine a_op ?_
   refine a_op ?_
   refine a_go ?_
   refine a_go ?_
   refine a_go ?_
   refine a_op ?_
   refine a_op ?_
   refine a_no ?_
   refine a_no ?_
   refine a_no ?_
   refine a_op ?_
   refine a_op ?_
   refine a_no ?_
   refine a_no ?_
   refine a_no ?_
   refine a_no ?_
   refine a_no ?_
   refine a_no ?_
   refine a_no ?_
   refine a_no ?_
   refine a_no ?_
   refine a_op ?_
   refine s_nil (r_false ?_)
   refine q_next ?_
   refine a_true ?_
   refine k_seq ?_
   refine k_region rfl ?_
   refine a_op ?_
   refine s_nil (r_false ?_)
   refine q_next ?_
   refine k_ret ?_
   refine q_meetF_ret ?_
   refine ⟨.inr rfl, a_ret [] (by rw [results20]) ?_ ?_ ?_⟩ <;> simp [-List.map_set, -List.map_replicate, -List.reduceReplicate, -List.map_map, -List.map_drop, -List.map_take, num, bol, txt, w8, w16, w32, w64, lst, cls, rowO, boxO, List.take_of_length_le, Wr.cellsL_len, wA, Wr.k_mk, Wr.n_mk, Wr.s_mk, Wr.l_mk, Wr.cellsL, Wr.z_eq, rcT, wpT, hq]
  ·have hq : rcB r = false := rcB_f (fun h => by
    have := h.2.2.2.2.1; omega)
   iterate 4 refine a_op ?_
   refine a_go ?_
   refine a_go ?_
   refine a_go ?_
   refine a_op ?_
   refine a_op ?_
   refine a_go ?_
   refine a_go ?_
   refine a_go ?_
   refine a_go ?_
   refine a_go ?_
   refine a_no ?_
   refine a_no ?_
   refine a_no ?_
   refine a_no ?_
   refine a_no ?_
   refine a_no ?_
   refine a_no ?_
   refine a_no ?_
   refine a_go ?_
   refine a_op ?_
   refine a_op ?_
   refine a_go ?_
   refine a_go ?_
   refine a_go ?_
   refine a_go ?_
   refine a_go ?_
   refine a_go ?_
   refine a_go ?_
   refine a_go ?_
   refine a_op ?_
   refine a_op ?_
   refine a_go ?_
   refine a_go ?_
   refine a_go ?_
   refine a_op ?_
   refine a_op ?_
   refine a_go ?_
   refine a_go ?_
   refine a_go ?_
   refine a_op ?_
   refine a_op ?_
   refine a_no ?_
   refine a_no ?_
   refine a_no ?_
   refine a_no ?_
   refine a_no ?_
   refine a_no ?_
   refine a_no ?_
   refine a_no ?_
   refine a_no ?_
   refine a_op ?_
   refine s_nil (r_false ?_)
   refine q_next ?_
   refine a_true ?_
   refine k_seq ?_
   refine k_region rfl ?_
   refine a_op ?_
   refine s_nil (r_false ?_)
   refine q_next ?_
   refine k_ret ?_
   refine q_meetF_ret ?_
   refine ⟨.inr rfl, a_ret [] (by rw [results20]) ?_ ?_ ?_⟩ <;> simp [-List.map_set, -List.map_replicate, -List.reduceReplicate, -List.map_map, -List.map_drop, -List.map_take, num, bol, txt, w8, w16, w32, w64, lst, cls, rowO, boxO, List.take_of_length_le, Wr.cellsL_len, wA, Wr.k_mk, Wr.n_mk, Wr.s_mk, Wr.l_mk, Wr.cellsL, Wr.z_eq, rcT, wpT, hq]
  ·have hP : prevP r := .inl hp.1
   have hD : 0 ≤ r.dev ∧ r.dev < 8 := hd
   have hK : kindP r := .inr hk
   have hT : tagP r := .inr ht.1
   have hPs := hp
   have hTs := ht
   iterate 4 refine a_op ?_
   refine a_go ?_
   refine a_go ?_
   refine a_go ?_
   refine a_op ?_
   refine a_op ?_
   refine a_go ?_
   refine a_go ?_
   refine a_go ?_
   refine a_go ?_
   refine a_go ?_
   refine a_no ?_
   refine a_no ?_
   refine a_no ?_
   refine a_no ?_
   refine a_no ?_
   refine a_no ?_
   refine a_no ?_
   refine a_no ?_
   refine a_go ?_
   refine a_op ?_
   refine a_op ?_
   refine a_go ?_
   refine a_go ?_
   refine a_go ?_
   refine a_go ?_
   refine a_go ?_
   refine a_go ?_
   refine a_go ?_
   refine a_go ?_
   refine a_op ?_
   refine a_op ?_
   refine a_go ?_
   refine a_go ?_
   refine a_go ?_
   refine a_op ?_
   refine a_op ?_
   refine a_go ?_
   refine a_go ?_
   refine a_go ?_
   refine a_op ?_
   refine a_op ?_
   refine a_go ?_
   refine a_go ?_
   refine a_go ?_
   refine a_go ?_
   refine a_go ?_
   refine a_no ?_
   refine a_no ?_
   refine a_no ?_
   refine a_go ?_
   refine a_op ?_
   refine s_nil (r_false ?_)
   refine q_next ?_
   refine a_false ?_
   refine k_skip ?_
   refine q_meetF (()) (a_le ?_) ?_
   ·refine le_same ?_ ?_ ?_ <;> simp [-List.map_set, -List.map_replicate, -List.reduceReplicate, -List.map_map, -List.map_drop, -List.map_take, num, bol, txt, w8, w16, w32, w64, lst, cls, rowO, boxO, List.take_of_length_le, Wr.cellsL_len, wA, Wr.k_mk, Wr.n_mk, Wr.s_mk, Wr.l_mk, Wr.cellsL, Wr.z_eq, rcT, wpT]
   ·exact ⟨⟨hs, hs2⟩, hP, hK, hD, hT⟩
  ·have hP : prevP r := .inl hp.1
   have hD : 0 ≤ r.dev ∧ r.dev < 8 := hd
   have hK : kindP r := .inr hk
   have hT : tagP r := .inl ht.2
   have hPs := hp
   have hTs := ht
   iterate 4 refine a_op ?_
   refine a_go ?_
   refine a_go ?_
   refine a_go ?_
   refine a_op ?_
   refine a_op ?_
   refine a_go ?_
   refine a_go ?_
   refine a_go ?_
   refine a_go ?_
   refine a_go ?_
   refine a_no ?_
   refine a_no ?_
   refine a_no ?_
   refine a_no ?_
   refine a_no ?_
   refine a_no ?_
   refine a_no ?_
   refine a_no ?_
   refine a_go ?_
   refine a_op ?_
   refine a_op ?_
   refine a_go ?_
   refine a_go ?_
   refine a_go ?_
   refine a_go ?_
   refine a_go ?_
   refine a_go ?_
   refine a_go ?_
   refine a_go ?_
   refine a_op ?_
   refine a_op ?_
   refine a_go ?_
   refine a_go ?_
   refine a_go ?_
   refine a_op ?_
   refine a_op ?_
   refine a_go ?_
   refine a_go ?_
   refine a_go ?_
   refine a_op ?_
   refine a_op ?_
   refine a_go ?_
   refine a_go ?_
   refine a_go ?_
   refine a_go ?_
   refine a_go ?_
   refine a_go ?_
   refine a_go ?_
   refine a_go (hs := by (simp (disch := omega) only [push_cast, reduceCtorEq, ht.2, beq_self_eq_true] <;> rfl)) ?_
   refine a_go ?_
   refine a_op ?_
   refine s_nil (r_false ?_)
   refine q_next ?_
   refine a_false ?_
   refine k_skip ?_
   refine q_meetF (()) (a_le ?_) ?_
   ·refine le_same ?_ ?_ ?_ <;> simp [-List.map_set, -List.map_replicate, -List.reduceReplicate, -List.map_map, -List.map_drop, -List.map_take, num, bol, txt, w8, w16, w32, w64, lst, cls, rowO, boxO, List.take_of_length_le, Wr.cellsL_len, wA, Wr.k_mk, Wr.n_mk, Wr.s_mk, Wr.l_mk, Wr.cellsL, Wr.z_eq, rcT, wpT]
   ·exact ⟨⟨hs, hs2⟩, hP, hK, hD, hT⟩
  ·have hq : rcB r = false := rcB_f (fun h => by
    rcases h.2.2.2.2.2.1 with g | g
    ·exact ht.2 g
    ·exact ht.1 g)
   iterate 4 refine a_op ?_
   refine a_go ?_
   refine a_go ?_
   refine a_go ?_
   refine a_op ?_
   refine a_op ?_
   refine a_go ?_
   refine a_go ?_
   refine a_go ?_
   refine a_go ?_
   refine a_go ?_
   refine a_no ?_
   refine a_no ?_
   refine a_no ?_
   refine a_no ?_
   refine a_no ?_
   refine a_no ?_
   refine a_no ?_
   refine a_no ?_
   refine a_go ?_
   refine a_op ?_
   refine a_op ?_
   refine a_go ?_
   refine a_go ?_
   refine a_go ?_
   refine a_go ?_
   refine a_go ?_
   refine a_go ?_
   refine a_go ?_
   refine a_go ?_
   refine a_op ?_
   refine a_op ?_
   refine a_go ?_
   refine a_go ?_
   refine a_go ?_
   refine a_op ?_
   refine a_op ?_
   refine a_go ?_
   refine a_go ?_
   refine a_go ?_
   refine a_op ?_
   refine a_op ?_
   refine a_go ?_
   refine a_go ?_
   refine a_go ?_
   refine a_go ?_
   refine a_go ?_
   refine a_go ?_
   refine a_go ?_
   refine a_go (hs := by (simp (disch := omega) only [push_cast, reduceCtorEq, beq_nil_ne ht.2] <;> rfl)) ?_
   refine a_go ?_
   refine a_op ?_
   refine s_nil (r_false ?_)
   refine q_next ?_
   refine a_true ?_
   refine k_seq ?_
   refine k_region rfl ?_
   refine a_op ?_
   refine s_nil (r_false ?_)
   refine q_next ?_
   refine k_ret ?_
   refine q_meetF_ret ?_
   refine ⟨.inr rfl, a_ret [] (by rw [results20]) ?_ ?_ ?_⟩ <;> simp [-List.map_set, -List.map_replicate, -List.reduceReplicate, -List.map_map, -List.map_drop, -List.map_take, num, bol, txt, w8, w16, w32, w64, lst, cls, rowO, boxO, List.take_of_length_le, Wr.cellsL_len, wA, Wr.k_mk, Wr.n_mk, Wr.s_mk, Wr.l_mk, Wr.cellsL, Wr.z_eq, rcT, wpT, hq]
  ·have hq : rcB r = false := rcB_f (fun h => by
    rcases h.2.2.2.1 with g | g
    ·exact hk.1 g
    ·exact hk.2 g)
   iterate 4 refine a_op ?_
   refine a_go ?_
   refine a_go ?_
   refine a_go ?_
   refine a_op ?_
   refine a_op ?_
   refine a_go ?_
   refine a_go ?_
   refine a_go ?_
   refine a_go ?_
   refine a_go ?_
   refine a_go ?_
   refine a_go ?_
   refine a_go ?_
   refine a_go ?_
   refine a_go ?_
   refine a_go ?_
   refine a_go (hs := by (simp (disch := omega) only [push_cast, reduceCtorEq, hp.2.2, beq_self_eq_true] <;> rfl)) ?_
   refine a_go ?_
   refine a_go ?_
   refine a_op ?_
   refine a_op ?_
   refine a_go ?_
   refine a_go ?_
   refine a_go ?_
   refine a_go ?_
   refine a_go ?_
   refine a_go ?_
   refine a_go ?_
   refine a_go ?_
   refine a_op ?_
   refine a_op ?_
   refine a_no ?_
   refine a_no ?_
   refine a_no ?_
   refine a_op ?_
   refine a_op ?_
   refine a_no ?_
   refine a_no ?_
   refine a_no ?_
   refine a_op ?_
   refine a_op ?_
   refine a_no ?_
   refine a_no ?_
   refine a_no ?_
   refine a_no ?_
   refine a_no ?_
   refine a_no ?_
   refine a_no ?_
   refine a_no ?_
   refine a_no ?_
   refine a_op ?_
   refine s_nil (r_false ?_)
   refine q_next ?_
   refine a_true ?_
   refine k_seq ?_
   refine k_region rfl ?_
   refine a_op ?_
   refine s_nil (r_false ?_)
   refine q_next ?_
   refine k_ret ?_
   refine q_meetF_ret ?_
   refine ⟨.inr rfl, a_ret [] (by rw [results20]) ?_ ?_ ?_⟩ <;> simp [-List.map_set, -List.map_replicate, -List.reduceReplicate, -List.map_map, -List.map_drop, -List.map_take, num, bol, txt, w8, w16, w32, w64, lst, cls, rowO, boxO, List.take_of_length_le, Wr.cellsL_len, wA, Wr.k_mk, Wr.n_mk, Wr.s_mk, Wr.l_mk, Wr.cellsL, Wr.z_eq, rcT, wpT, hq]
  ·have hq : rcB r = false := rcB_f (fun h => by
    have := h.2.2.2.2.1; omega)
   iterate 4 refine a_op ?_
   refine a_go ?_
   refine a_go ?_
   refine a_go ?_
   refine a_op ?_
   refine a_op ?_
   refine a_go ?_
   refine a_go ?_
   refine a_go ?_
   refine a_go ?_
   refine a_go ?_
   refine a_go ?_
   refine a_go ?_
   refine a_go ?_
   refine a_go ?_
   refine a_go ?_
   refine a_go ?_
   refine a_go (hs := by (simp (disch := omega) only [push_cast, reduceCtorEq, hp.2.2, beq_self_eq_true] <;> rfl)) ?_
   refine a_go ?_
   refine a_go ?_
   refine a_op ?_
   refine a_op ?_
   refine a_go ?_
   refine a_go ?_
   refine a_go ?_
   refine a_go ?_
   refine a_no ?_
   refine a_no ?_
   refine a_no ?_
   refine a_go ?_
   refine a_op ?_
   refine a_op ?_
   refine a_go ?_
   refine a_go ?_
   refine a_go ?_
   refine a_op ?_
   refine a_op ?_
   refine a_no ?_
   refine a_no ?_
   refine a_no ?_
   refine a_op ?_
   refine a_op ?_
   refine a_no ?_
   refine a_no ?_
   refine a_no ?_
   refine a_no ?_
   refine a_no ?_
   refine a_no ?_
   refine a_no ?_
   refine a_no ?_
   refine a_no ?_
   refine a_op ?_
   refine s_nil (r_false ?_)
   refine q_next ?_
   refine a_true ?_
   refine k_seq ?_
   refine k_region rfl ?_
   refine a_op ?_
   refine s_nil (r_false ?_)
   refine q_next ?_
   refine k_ret ?_
   refine q_meetF_ret ?_
   refine ⟨.inr rfl, a_ret [] (by rw [results20]) ?_ ?_ ?_⟩ <;> simp [-List.map_set, -List.map_replicate, -List.reduceReplicate, -List.map_map, -List.map_drop, -List.map_take, num, bol, txt, w8, w16, w32, w64, lst, cls, rowO, boxO, List.take_of_length_le, Wr.cellsL_len, wA, Wr.k_mk, Wr.n_mk, Wr.s_mk, Wr.l_mk, Wr.cellsL, Wr.z_eq, rcT, wpT, hq]
  ·have hq : rcB r = false := rcB_f (fun h => by
    have := h.2.2.2.2.1; omega)
   iterate 4 refine a_op ?_
   refine a_go ?_
   refine a_go ?_
   refine a_go ?_
   refine a_op ?_
   refine a_op ?_
   refine a_go ?_
   refine a_go ?_
   refine a_go ?_
   refine a_go ?_
   refine a_go ?_
   refine a_go ?_
   refine a_go ?_
   refine a_go ?_
   refine a_go ?_
   refine a_go ?_
   refine a_go ?_
   refine a_go (hs := by (simp (disch := omega) only [push_cast, reduceCtorEq, hp.2.2, beq_self_eq_true] <;> rfl)) ?_
   refine a_go ?_
   refine a_go ?_
   refine a_op ?_
   refine a_op ?_
   refine a_go ?_
   refine a_go ?_
   refine a_go ?_
   refine a_go ?_
   refine a_no ?_
   refine a_no ?_
   refine a_no ?_
   refine a_go ?_
   refine a_op ?_
   refine a_op ?_
   refine a_go ?_
   refine a_go ?_
   refine a_go ?_
   refine a_op ?_
   refine a_op ?_
   refine a_go ?_
   refine a_go ?_
   refine a_go ?_
   refine a_op ?_
   refine a_op ?_
   refine a_no ?_
   refine a_no ?_
   refine a_no ?_
   refine a_no ?_
   refine a_no ?_
   refine a_no ?_
   refine a_no ?_
   refine a_no ?_
   refine a_no ?_
   refine a_op ?_
   refine s_nil (r_false ?_)
   refine q_next ?_
   refine a_true ?_
   refine k_seq ?_
   refine k_region rfl ?_
   refine a_op ?_
   refine s_nil (r_false ?_)
   refine q_next ?_
   refine k_ret ?_
   refine q_meetF_ret ?_
   refine ⟨.inr rfl, a_ret [] (by rw [results20]) ?_ ?_ ?_⟩ <;> simp [-List.map_set, -List.map_replicate, -List.reduceReplicate, -List.map_map, -List.map_drop, -List.map_take, num, bol, txt, w8, w16, w32, w64, lst, cls, rowO, boxO, List.take_of_length_le, Wr.cellsL_len, wA, Wr.k_mk, Wr.n_mk, Wr.s_mk, Wr.l_mk, Wr.cellsL, Wr.z_eq, rcT, wpT, hq]
  ·have hP : prevP r := .inr ⟨hp.2.1, hp.2.2⟩
   have hD : 0 ≤ r.dev ∧ r.dev < 8 := hd
   have hK : kindP r := .inl hk
   have hT : tagP r := .inr ht.1
   have hPs := hp
   have hTs := ht
   iterate 4 refine a_op ?_
   refine a_go ?_
   refine a_go ?_
   refine a_go ?_
   refine a_op ?_
   refine a_op ?_
   refine a_go ?_
   refine a_go ?_
   refine a_go ?_
   refine a_go ?_
   refine a_go ?_
   refine a_go ?_
   refine a_go ?_
   refine a_go ?_
   refine a_go ?_
   refine a_go ?_
   refine a_go ?_
   refine a_go (hs := by (simp (disch := omega) only [push_cast, reduceCtorEq, hp.2.2, beq_self_eq_true] <;> rfl)) ?_
   refine a_go ?_
   refine a_go ?_
   refine a_op ?_
   refine a_op ?_
   refine a_go ?_
   refine a_go ?_
   refine a_go ?_
   refine a_go ?_
   refine a_no ?_
   refine a_no ?_
   refine a_no ?_
   refine a_go ?_
   refine a_op ?_
   refine a_op ?_
   refine a_go ?_
   refine a_go ?_
   refine a_go ?_
   refine a_op ?_
   refine a_op ?_
   refine a_go ?_
   refine a_go ?_
   refine a_go ?_
   refine a_op ?_
   refine a_op ?_
   refine a_go ?_
   refine a_go ?_
   refine a_go ?_
   refine a_go ?_
   refine a_go ?_
   refine a_no ?_
   refine a_no ?_
   refine a_no ?_
   refine a_go ?_
   refine a_op ?_
   refine s_nil (r_false ?_)
   refine q_next ?_
   refine a_false ?_
   refine k_skip ?_
   refine q_meetF (()) (a_le ?_) ?_
   ·refine le_same ?_ ?_ ?_ <;> simp [-List.map_set, -List.map_replicate, -List.reduceReplicate, -List.map_map, -List.map_drop, -List.map_take, num, bol, txt, w8, w16, w32, w64, lst, cls, rowO, boxO, List.take_of_length_le, Wr.cellsL_len, wA, Wr.k_mk, Wr.n_mk, Wr.s_mk, Wr.l_mk, Wr.cellsL, Wr.z_eq, rcT, wpT]
   ·exact ⟨⟨hs, hs2⟩, hP, hK, hD, hT⟩
  ·have hP : prevP r := .inr ⟨hp.2.1, hp.2.2⟩
   have hD : 0 ≤ r.dev ∧ r.dev < 8 := hd
   have hK : kindP r := .inl hk
   have hT : tagP r := .inl ht.2
   have hPs := hp
   have hTs := ht
   iterate 4 refine a_op ?_
   refine a_go ?_
   refine a_go ?_
   refine a_go ?_
   refine a_op ?_
   refine a_op ?_
   refine a_go ?_
   refine a_go ?_
   refine a_go ?_
   refine a_go ?_
   refine a_go ?_
   refine a_go ?_
   refine a_go ?_
   refine a_go ?_
   refine a_go ?_
   refine a_go ?_
   refine a_go ?_
   refine a_go (hs := by (simp (disch := omega) only [push_cast, reduceCtorEq, hp.2.2, beq_self_eq_true] <;> rfl)) ?_
   refine a_go ?_
   refine a_go ?_
   refine a_op ?_
   refine a_op ?_
   refine a_go ?_
   refine a_go ?_
   refine a_go ?_
   refine a_go ?_
   refine a_no ?_
   refine a_no ?_
   refine a_no ?_
   refine a_go ?_
   refine a_op ?_
   refine a_op ?_
   refine a_go ?_
   refine a_go ?_
   refine a_go ?_
   refine a_op ?_
   refine a_op ?_
   refine a_go ?_
   refine a_go ?_
   refine a_go ?_
   refine a_op ?_
   refine a_op ?_
   refine a_go ?_
   refine a_go ?_
   refine a_go ?_
   refine a_go ?_
   refine a_go ?_
   refine a_go ?_
   refine a_go ?_
   refine a_go (hs := by (simp (disch := omega) only [push_cast, reduceCtorEq, ht.2, beq_self_eq_true] <;> rfl)) ?_
   refine a_go ?_
   refine a_op ?_
   refine s_nil (r_false ?_)
   refine q_next ?_
   refine a_false ?_
   refine k_skip ?_
   refine q_meetF (()) (a_le ?_) ?_
   ·refine le_same ?_ ?_ ?_ <;> simp [-List.map_set, -List.map_replicate, -List.reduceReplicate, -List.map_map, -List.map_drop, -List.map_take, num, bol, txt, w8, w16, w32, w64, lst, cls, rowO, boxO, List.take_of_length_le, Wr.cellsL_len, wA, Wr.k_mk, Wr.n_mk, Wr.s_mk, Wr.l_mk, Wr.cellsL, Wr.z_eq, rcT, wpT]
   ·exact ⟨⟨hs, hs2⟩, hP, hK, hD, hT⟩
  ·have hq : rcB r = false := rcB_f (fun h => by
    rcases h.2.2.2.2.2.1 with g | g
    ·exact ht.2 g
    ·exact ht.1 g)
   iterate 4 refine a_op ?_
   refine a_go ?_
   refine a_go ?_
   refine a_go ?_
   refine a_op ?_
   refine a_op ?_
   refine a_go ?_
   refine a_go ?_
   refine a_go ?_
   refine a_go ?_
   refine a_go ?_
   refine a_go ?_
   refine a_go ?_
   refine a_go ?_
   refine a_go ?_
   refine a_go ?_
   refine a_go ?_
   refine a_go (hs := by (simp (disch := omega) only [push_cast, reduceCtorEq, hp.2.2, beq_self_eq_true] <;> rfl)) ?_
   refine a_go ?_
   refine a_go ?_
   refine a_op ?_
   refine a_op ?_
   refine a_go ?_
   refine a_go ?_
   refine a_go ?_
   refine a_go ?_
   refine a_no ?_
   refine a_no ?_
   refine a_no ?_
   refine a_go ?_
   refine a_op ?_
   refine a_op ?_
   refine a_go ?_
   refine a_go ?_
   refine a_go ?_
   refine a_op ?_
   refine a_op ?_
   refine a_go ?_
   refine a_go ?_
   refine a_go ?_
   refine a_op ?_
   refine a_op ?_
   refine a_go ?_
   refine a_go ?_
   refine a_go ?_
   refine a_go ?_
   refine a_go ?_
   refine a_go ?_
   refine a_go ?_
   refine a_go (hs := by (simp (disch := omega) only [push_cast, reduceCtorEq, beq_nil_ne ht.2] <;> rfl)) ?_
   refine a_go ?_
   refine a_op ?_
   refine s_nil (r_false ?_)
   refine q_next ?_
   refine a_true ?_
   refine k_seq ?_
   refine k_region rfl ?_
   refine a_op ?_
   refine s_nil (r_false ?_)
   refine q_next ?_
   refine k_ret ?_
   refine q_meetF_ret ?_
   refine ⟨.inr rfl, a_ret [] (by rw [results20]) ?_ ?_ ?_⟩ <;> simp [-List.map_set, -List.map_replicate, -List.reduceReplicate, -List.map_map, -List.map_drop, -List.map_take, num, bol, txt, w8, w16, w32, w64, lst, cls, rowO, boxO, List.take_of_length_le, Wr.cellsL_len, wA, Wr.k_mk, Wr.n_mk, Wr.s_mk, Wr.l_mk, Wr.cellsL, Wr.z_eq, rcT, wpT, hq]
  ·have hq : rcB r = false := rcB_f (fun h => by
    have := h.2.2.2.2.1; omega)
   iterate 4 refine a_op ?_
   refine a_go ?_
   refine a_go ?_
   refine a_go ?_
   refine a_op ?_
   refine a_op ?_
   refine a_go ?_
   refine a_go ?_
   refine a_go ?_
   refine a_go ?_
   refine a_go ?_
   refine a_go ?_
   refine a_go ?_
   refine a_go ?_
   refine a_go ?_
   refine a_go ?_
   refine a_go ?_
   refine a_go (hs := by (simp (disch := omega) only [push_cast, reduceCtorEq, hp.2.2, beq_self_eq_true] <;> rfl)) ?_
   refine a_go ?_
   refine a_go ?_
   refine a_op ?_
   refine a_op ?_
   refine a_go ?_
   refine a_go ?_
   refine a_go ?_
   refine a_go ?_
   refine a_go ?_
   refine a_go ?_
   refine a_go ?_
   refine a_go ?_
   refine a_op ?_
   refine a_op ?_
   refine a_go ?_
   refine a_go ?_
   refine a_go ?_
   refine a_op ?_
   refine a_op ?_
   refine a_no ?_
   refine a_no ?_
   refine a_no ?_
   refine a_op ?_
   refine a_op ?_
   refine a_no ?_
   refine a_no ?_
   refine a_no ?_
   refine a_no ?_
   refine a_no ?_
   refine a_no ?_
   refine a_no ?_
   refine a_no ?_
   refine a_no ?_
   refine a_op ?_
   refine s_nil (r_false ?_)
   refine q_next ?_
   refine a_true ?_
   refine k_seq ?_
   refine k_region rfl ?_
   refine a_op ?_
   refine s_nil (r_false ?_)
   refine q_next ?_
   refine k_ret ?_
   refine q_meetF_ret ?_
   refine ⟨.inr rfl, a_ret [] (by rw [results20]) ?_ ?_ ?_⟩ <;> simp [-List.map_set, -List.map_replicate, -List.reduceReplicate, -List.map_map, -List.map_drop, -List.map_take, num, bol, txt, w8, w16, w32, w64, lst, cls, rowO, boxO, List.take_of_length_le, Wr.cellsL_len, wA, Wr.k_mk, Wr.n_mk, Wr.s_mk, Wr.l_mk, Wr.cellsL, Wr.z_eq, rcT, wpT, hq]
  ·have hq : rcB r = false := rcB_f (fun h => by
    have := h.2.2.2.2.1; omega)
   iterate 4 refine a_op ?_
   refine a_go ?_
   refine a_go ?_
   refine a_go ?_
   refine a_op ?_
   refine a_op ?_
   refine a_go ?_
   refine a_go ?_
   refine a_go ?_
   refine a_go ?_
   refine a_go ?_
   refine a_go ?_
   refine a_go ?_
   refine a_go ?_
   refine a_go ?_
   refine a_go ?_
   refine a_go ?_
   refine a_go (hs := by (simp (disch := omega) only [push_cast, reduceCtorEq, hp.2.2, beq_self_eq_true] <;> rfl)) ?_
   refine a_go ?_
   refine a_go ?_
   refine a_op ?_
   refine a_op ?_
   refine a_go ?_
   refine a_go ?_
   refine a_go ?_
   refine a_go ?_
   refine a_go ?_
   refine a_go ?_
   refine a_go ?_
   refine a_go ?_
   refine a_op ?_
   refine a_op ?_
   refine a_go ?_
   refine a_go ?_
   refine a_go ?_
   refine a_op ?_
   refine a_op ?_
   refine a_go ?_
   refine a_go ?_
   refine a_go ?_
   refine a_op ?_
   refine a_op ?_
   refine a_no ?_
   refine a_no ?_
   refine a_no ?_
   refine a_no ?_
   refine a_no ?_
   refine a_no ?_
   refine a_no ?_
   refine a_no ?_
   refine a_no ?_
   refine a_op ?_
   refine s_nil (r_false ?_)
   refine q_next ?_
   refine a_true ?_
   refine k_seq ?_
   refine k_region rfl ?_
   refine a_op ?_
   refine s_nil (r_false ?_)
   refine q_next ?_
   refine k_ret ?_
   refine q_meetF_ret ?_
   refine ⟨.inr rfl, a_ret [] (by rw [results20]) ?_ ?_ ?_⟩ <;> simp [-List.map_set, -List.map_replicate, -List.reduceReplicate, -List.map_map, -List.map_drop, -List.map_take, num, bol, txt, w8, w16, w32, w64, lst, cls, rowO, boxO, List.take_of_length_le, Wr.cellsL_len, wA, Wr.k_mk, Wr.n_mk, Wr.s_mk, Wr.l_mk, Wr.cellsL, Wr.z_eq, rcT, wpT, hq]
  ·have hP : prevP r := .inr ⟨hp.2.1, hp.2.2⟩
   have hD : 0 ≤ r.dev ∧ r.dev < 8 := hd
   have hK : kindP r := .inr hk
   have hT : tagP r := .inr ht.1
   have hPs := hp
   have hTs := ht
   iterate 4 refine a_op ?_
   refine a_go ?_
   refine a_go ?_
   refine a_go ?_
   refine a_op ?_
   refine a_op ?_
   refine a_go ?_
   refine a_go ?_
   refine a_go ?_
   refine a_go ?_
   refine a_go ?_
   refine a_go ?_
   refine a_go ?_
   refine a_go ?_
   refine a_go ?_
   refine a_go ?_
   refine a_go ?_
   refine a_go (hs := by (simp (disch := omega) only [push_cast, reduceCtorEq, hp.2.2, beq_self_eq_true] <;> rfl)) ?_
   refine a_go ?_
   refine a_go ?_
   refine a_op ?_
   refine a_op ?_
   refine a_go ?_
   refine a_go ?_
   refine a_go ?_
   refine a_go ?_
   refine a_go ?_
   refine a_go ?_
   refine a_go ?_
   refine a_go ?_
   refine a_op ?_
   refine a_op ?_
   refine a_go ?_
   refine a_go ?_
   refine a_go ?_
   refine a_op ?_
   refine a_op ?_
   refine a_go ?_
   refine a_go ?_
   refine a_go ?_
   refine a_op ?_
   refine a_op ?_
   refine a_go ?_
   refine a_go ?_
   refine a_go ?_
   refine a_go ?_
   refine a_go ?_
   refine a_no ?_
   refine a_no ?_
   refine a_no ?_
   refine a_go ?_
   refine a_op ?_
   refine s_nil (r_false ?_)
   refine q_next ?_
   refine a_false ?_
   refine k_skip ?_
   refine q_meetF (()) (a_le ?_) ?_
   ·refine le_same ?_ ?_ ?_ <;> simp [-List.map_set, -List.map_replicate, -List.reduceReplicate, -List.map_map, -List.map_drop, -List.map_take, num, bol, txt, w8, w16, w32, w64, lst, cls, rowO, boxO, List.take_of_length_le, Wr.cellsL_len, wA, Wr.k_mk, Wr.n_mk, Wr.s_mk, Wr.l_mk, Wr.cellsL, Wr.z_eq, rcT, wpT]
   ·exact ⟨⟨hs, hs2⟩, hP, hK, hD, hT⟩
  ·have hP : prevP r := .inr ⟨hp.2.1, hp.2.2⟩
   have hD : 0 ≤ r.dev ∧ r.dev < 8 := hd
   have hK : kindP r := .inr hk
   have hT : tagP r := .inl ht.2
   have hPs := hp
   have hTs := ht
   iterate 4 refine a_op ?_
   refine a_go ?_
   refine a_go ?_
   refine a_go ?_
   refine a_op ?_
   refine a_op ?_
   refine a_go ?_
   refine a_go ?_
   refine a_go ?_
   refine a_go ?_
   refine a_go ?_
   refine a_go ?_
   refine a_go ?_
   refine a_go ?_
   refine a_go ?_
   refine a_go ?_
   refine a_go ?_
   refine a_go (hs := by (simp (disch := omega) only [push_cast, reduceCtorEq, hp.2.2, beq_self_eq_true] <;> rfl)) ?_
   refine a_go ?_
   refine a_go ?_
   refine a_op ?_
   refine a_op ?_
   refine a_go ?_
   refine a_go ?_
   refine a_go ?_
   refine a_go ?_
   refine a_go ?_
   refine a_go ?_
   refine a_go ?_
   refine a_go ?_
   refine a_op ?_
   refine a_op ?_
   refine a_go ?_
   refine a_go ?_
   refine a_go ?_
   refine a_op ?_
   refine a_op ?_
   refine a_go ?_
   refine a_go ?_
   refine a_go ?_
   refine a_op ?_
   refine a_op ?_
   refine a_go ?_
   refine a_go ?_
   refine a_go ?_
   refine a_go ?_
   refine a_go ?_
   refine a_go ?_
   refine a_go ?_
   refine a_go (hs := by (simp (disch := omega) only [push_cast, reduceCtorEq, ht.2, beq_self_eq_true] <;> rfl)) ?_
   refine a_go ?_
   refine a_op ?_
   refine s_nil (r_false ?_)
   refine q_next ?_
   refine a_false ?_
   refine k_skip ?_
   refine q_meetF (()) (a_le ?_) ?_
   ·refine le_same ?_ ?_ ?_ <;> simp [-List.map_set, -List.map_replicate, -List.reduceReplicate, -List.map_map, -List.map_drop, -List.map_take, num, bol, txt, w8, w16, w32, w64, lst, cls, rowO, boxO, List.take_of_length_le, Wr.cellsL_len, wA, Wr.k_mk, Wr.n_mk, Wr.s_mk, Wr.l_mk, Wr.cellsL, Wr.z_eq, rcT, wpT]
   ·exact ⟨⟨hs, hs2⟩, hP, hK, hD, hT⟩
  ·have hq : rcB r = false := rcB_f (fun h => by
    rcases h.2.2.2.2.2.1 with g | g
    ·exact ht.2 g
    ·exact ht.1 g)
   iterate 4 refine a_op ?_
   refine a_go ?_
   refine a_go ?_
   refine a_go ?_
   refine a_op ?_
   refine a_op ?_
   refine a_go ?_
   refine a_go ?_
   refine a_go ?_
   refine a_go ?_
   refine a_go ?_
   refine a_go ?_
   refine a_go ?_
   refine a_go ?_
   refine a_go ?_
   refine a_go ?_
   refine a_go ?_
   refine a_go (hs := by (simp (disch := omega) only [push_cast, reduceCtorEq, hp.2.2, beq_self_eq_true] <;> rfl)) ?_
   refine a_go ?_
   refine a_go ?_
   refine a_op ?_
   refine a_op ?_
   refine a_go ?_
   refine a_go ?_
   refine a_go ?_
   refine a_go ?_
   refine a_go ?_
   refine a_go ?_
   refine a_go ?_
   refine a_go ?_
   refine a_op ?_
   refine a_op ?_
   refine a_go ?_
   refine a_go ?_
   refine a_go ?_
   refine a_op ?_
   refine a_op ?_
   refine a_go ?_
   refine a_go ?_
   refine a_go ?_
   refine a_op ?_
   refine a_op ?_
   refine a_go ?_
   refine a_go ?_
   refine a_go ?_
   refine a_go ?_
   refine a_go ?_
   refine a_go ?_
   refine a_go ?_
   refine a_go (hs := by (simp (disch := omega) only [push_cast, reduceCtorEq, beq_nil_ne ht.2] <;> rfl)) ?_
   refine a_go ?_
   refine a_op ?_
   refine s_nil (r_false ?_)
   refine q_next ?_
   refine a_true ?_
   refine k_seq ?_
   refine k_region rfl ?_
   refine a_op ?_
   refine s_nil (r_false ?_)
   refine q_next ?_
   refine k_ret ?_
   refine q_meetF_ret ?_
   refine ⟨.inr rfl, a_ret [] (by rw [results20]) ?_ ?_ ?_⟩ <;> simp [-List.map_set, -List.map_replicate, -List.reduceReplicate, -List.map_map, -List.map_drop, -List.map_take, num, bol, txt, w8, w16, w32, w64, lst, cls, rowO, boxO, List.take_of_length_le, Wr.cellsL_len, wA, Wr.k_mk, Wr.n_mk, Wr.s_mk, Wr.l_mk, Wr.cellsL, Wr.z_eq, rcT, wpT, hq]
 ·rintro _ ⟨⟨hs, hs2⟩, hP, hK, hD, hT⟩
  refine a_st ?_
  refine k_seq ?_
  refine k_seq ?_
  refine k_region rfl ?_
  refine a_op ?_
  refine s_nil (r_false ?_)
  refine q_next ?_
  refine k_block ?_
  refine k_loopF (fun sl L (i : Nat) => ⟨setAll (setBad sl [0, 2, 4, 5, 6, 7, 8, 9, 10, 11, 12, 13, 14, 15, 16, 17, 18, 19, 20, 21, 22, 23, 24, 25, 26, 27, 28, 29, 30, 31, 32, 33, 34, 35, 36, 37, 38, 39, 40, 41, 42, 43, 44, 45, 46, 47, 48, 49, 50, 51, 52, 53, 54, 55, 56, 57, 58, 59, 60, 61, 62, 63, 64, 65, 66, 67, 68, 69, 70, 71, 72, 73, 74, 75, 76, 77, 78, 79, 80, 81, 82, 83, 84, 85, 86, 87, 88, 89, 90, 91, 92, 93, 94, 95, 96, 97, 98, 99, 100, 101]) [(3, .t (num i))], Go.Ot.look (L)⟩) (fun i => i ≤ r.wraps.length ∧ ∀ j, j < i → wpOk r.wraps j = true) (fun i => r.wraps.length - i) (0) (a_le ?_) ?_ ?_
  ·refine le_same ?_ ?_ ?_ <;> simp [-List.map_set, -List.map_replicate, -List.reduceReplicate, -List.map_map, -List.map_drop, -List.map_take, num, bol, txt, w8, w16, w32, w64, lst, cls, rowO, boxO, List.take_of_length_le, Wr.cellsL_len, wA, Wr.k_mk, Wr.n_mk, Wr.s_mk, Wr.l_mk, Wr.cellsL, Wr.z_eq, rcT, wpT]
  ·exact ⟨Nat.zero_le _, fun j hj => by omega⟩
  ·rintro i ⟨hi, hI⟩
   refine a_st ?_
   refine k_seq ?_
   refine k_seq ?_
   refine k_region rfl ?_
   iterate 5 refine a_op ?_
   refine s_nil (r_false ?_)
   refine q_next ?_
   refine a_if (fun hc1 => ?_) (fun hc1 => ?_)
   ·(try simp only [Bool.and_eq_true, Bool.or_eq_true, Bool.or_eq_false_iff, Bool.not_eq_true', Bool.not_eq_false', dec_t, dec_f, Bool.and_eq_false_imp, beq_iff_eq, beq_eq_false_iff_ne, ne_eq] at hc1)
    refine k_skip ?_
    refine q_next ?_
    refine k_seq ?_
    refine k_block ?_
    refine k_seq ?_
    refine k_region rfl ?_
    iterate 5 refine a_op ?_
    obtain ⟨e, he⟩ : ∃ e, r.wraps.getD i default = e := ⟨_, rfl⟩
    simp only [he]
    refine a_op ?_
    refine a_op ?_
    refine s_nil (r_false ?_)
    refine q_next ?_
    refine k_seq ?_
    refine k_region rfl ?_
    have h6 : (e.dev < 0) ∨ (0 ≤ e.dev ∧ 8 ≤ e.dev) ∨ (0 ≤ e.dev ∧ e.dev < 8 ∧ 200 < e.box.length) ∨ (0 ≤ e.dev ∧ e.dev < 8 ∧ e.box.length ≤ 200 ∧ i = 0) ∨ (0 ≤ e.dev ∧ e.dev < 8 ∧ e.box.length ≤ 200 ∧ (∃ k, i = k + 1) ∧ e.dev ≤ (r.wraps.getD (i - 1) default).dev) ∨ (0 ≤ e.dev ∧ e.dev < 8 ∧ e.box.length ≤ 200 ∧ (∃ k, i = k + 1) ∧ (r.wraps.getD (i - 1) default).dev < e.dev) := by
     have : i = 0 ∨ ∃ k, i = k + 1 := by cases i with | zero => exact .inl rfl | succ k => exact .inr ⟨k, rfl⟩
     rcases this with rfl | ⟨k, hk⟩
     ·omega
     ·have hk' : ∃ k, i = k + 1 := ⟨k, hk⟩
      simp only [hk', true_and]
      omega
    rcases h6 with g | ⟨g0, g⟩ | ⟨g0, g1, g⟩ | ⟨g0, g1, g2, rfl⟩ | ⟨g0, g1, g2, ⟨k, rfl⟩, g3⟩ | ⟨g0, g1, g2, ⟨k, rfl⟩, g3⟩
    ·have hm : mwB r.wraps = false := mwB_no (i := i) (by omega) (by rw [he]; rintro ⟨a, b, c, d⟩; omega)
     have hq : rcB r = false := rcB_f (fun h => by have := h.2.2.2.2.2.2; rw [hm] at this; cases this)
     iterate 4 refine a_opd ?_
     refine a_nod ?_
     refine a_nod ?_
     refine a_nod ?_
     refine a_opd ?_
     refine a_opd ?_
     refine a_nod ?_
     refine a_nod ?_
     refine a_nod ?_
     refine a_nod ?_
     refine a_opd ?_
     refine a_opd ?_
     refine a_nod ?_
     refine a_nod ?_
     refine a_nod ?_
     refine a_nod ?_
     refine a_nod ?_
     refine a_nod ?_
     refine a_nod ?_
     refine a_nod ?_
     refine a_nod ?_
     refine a_nod ?_
     refine a_nod ?_
     refine a_nod ?_
     refine a_nod ?_
     refine a_nod ?_
     refine a_opd ?_
     refine s_nil (r_true (by kernel_rfl) ?_)
     refine q_next ?_
     refine a_true ?_
     refine k_seq ?_
     refine k_region rfl ?_
     refine a_op ?_
     refine s_nil (r_false ?_)
     refine q_next ?_
     refine k_ret ?_
     refine q_block_ret (q_seq_ret (q_loopF_ret (q_block_ret (q_seq_ret ?_))))
     refine ⟨.inr rfl, a_ret [] (by rw [results20]) ?_ ?_ ?_⟩ <;> simp [-List.map_set, -List.map_replicate, -List.reduceReplicate, -List.map_map, -List.map_drop, -List.map_take, num, bol, txt, w8, w16, w32, w64, lst, cls, rowO, boxO, List.take_of_length_le, Wr.cellsL_len, wA, Wr.k_mk, Wr.n_mk, Wr.s_mk, Wr.l_mk, Wr.cellsL, Wr.z_eq, rcT, wpT, hq]
    ·have hm : mwB r.wraps = false := mwB_no (i := i) (by omega) (by rw [he]; rintro ⟨a, b, c, d⟩; omega)
     have hq : rcB r = false := rcB_f (fun h => by have := h.2.2.2.2.2.2; rw [hm] at this; cases this)
     iterate 4 refine a_opd ?_
     refine a_god ?_
     refine a_god ?_
     refine a_god ?_
     refine a_opd ?_
     refine a_opd ?_
     refine a_nod ?_
     refine a_nod ?_
     refine a_nod ?_
     refine a_nod ?_
     refine a_opd ?_
     refine a_opd ?_
     refine a_nod ?_
     refine a_nod ?_
     refine a_nod ?_
     refine a_nod ?_
     refine a_nod ?_
     refine a_nod ?_
     refine a_nod ?_
     refine a_nod ?_
     refine a_nod ?_
     refine a_nod ?_
     refine a_nod ?_
     refine a_nod ?_
     refine a_nod ?_
     refine a_nod ?_
     refine a_opd ?_
     refine s_nil (r_true (by kernel_rfl) ?_)
     refine q_next ?_
     refine a_true ?_
     refine k_seq ?_
     refine k_region rfl ?_
     refine a_op ?_
     refine s_nil (r_false ?_)
     refine q_next ?_
     refine k_ret ?_
     refine q_block_ret (q_seq_ret (q_loopF_ret (q_block_ret (q_seq_ret ?_))))
     refine ⟨.inr rfl, a_ret [] (by rw [results20]) ?_ ?_ ?_⟩ <;> simp [-List.map_set, -List.map_replicate, -List.reduceReplicate, -List.map_map, -List.map_drop, -List.map_take, num, bol, txt, w8, w16, w32, w64, lst, cls, rowO, boxO, List.take_of_length_le, Wr.cellsL_len, wA, Wr.k_mk, Wr.n_mk, Wr.s_mk, Wr.l_mk, Wr.cellsL, Wr.z_eq, rcT, wpT, hq]
    ·have hm : mwB r.wraps = false := mwB_no (i := i) (by omega) (by rw [he]; rintro ⟨a, b, c, d⟩; omega)
     have hq : rcB r = false := rcB_f (fun h => by have := h.2.2.2.2.2.2; rw [hm] at this; cases this)
     iterate 4 refine a_opd ?_
     refine a_god ?_
     refine a_god ?_
     refine a_god ?_
     refine a_opd ?_
     refine a_opd ?_
     refine a_god ?_
     refine a_god ?_
     refine a_god ?_
     refine a_god ?_
     refine a_opd ?_
     refine a_opd ?_
     refine a_nod ?_
     refine a_nod ?_
     refine a_nod ?_
     refine a_nod ?_
     refine a_nod ?_
     refine a_nod ?_
     refine a_nod ?_
     refine a_nod ?_
     refine a_nod ?_
     refine a_nod ?_
     refine a_nod ?_
     refine a_nod ?_
     refine a_nod ?_
     refine a_nod ?_
     refine a_opd ?_
     refine s_nil (r_true (by kernel_rfl) ?_)
     refine q_next ?_
     refine a_true ?_
     refine k_seq ?_
     refine k_region rfl ?_
     refine a_op ?_
     refine s_nil (r_false ?_)
     refine q_next ?_
     refine k_ret ?_
     refine q_block_ret (q_seq_ret (q_loopF_ret (q_block_ret (q_seq_ret ?_))))
     refine ⟨.inr rfl, a_ret [] (by rw [results20]) ?_ ?_ ?_⟩ <;> simp [-List.map_set, -List.map_replicate, -List.reduceReplicate, -List.map_map, -List.map_drop, -List.map_take, num, bol, txt, w8, w16, w32, w64, lst, cls, rowO, boxO, List.take_of_length_le, Wr.cellsL_len, wA, Wr.k_mk, Wr.n_mk, Wr.s_mk, Wr.l_mk, Wr.cellsL, Wr.z_eq, rcT, wpT, hq]
    ·have hn := ok_next hI (by rw [he]; exact ⟨g0, g1, g2, fun hh => by omega⟩)
     iterate 4 refine a_opd ?_
     refine a_god ?_
     refine a_god ?_
     refine a_god ?_
     refine a_opd ?_
     refine a_opd ?_
     refine a_god ?_
     refine a_god ?_
     refine a_god ?_
     refine a_god ?_
     refine a_opd ?_
     refine a_opd ?_
     refine a_god ?_
     refine a_god ?_
     refine a_god ?_
     refine a_nod ?_
     refine a_nod ?_
     refine a_nod ?_
     refine a_nod ?_
     refine a_nod ?_
     refine a_nod ?_
     refine a_nod ?_
     refine a_nod ?_
     refine a_nod ?_
     refine a_nod ?_
     refine a_god ?_
     refine a_opd ?_
     refine s_nil (r_true (by kernel_rfl) ?_)
     refine q_next ?_
     refine a_false ?_
     refine k_skip ?_
     refine q_block (q_next ?_)
     refine k_region rfl ?_
     iterate 3 refine a_op ?_
     refine s_nil (r_false ?_)
     refine q_loopF (0 + 1) (a_le ?_) ?_ ?_
     ·refine le_same ?_ ?_ ?_ <;> simp [-List.map_set, -List.map_replicate, -List.reduceReplicate, -List.map_map, -List.map_drop, -List.map_take, num, bol, txt, w8, w16, w32, w64, lst, cls, rowO, boxO, List.take_of_length_le, Wr.cellsL_len, wA, Wr.k_mk, Wr.n_mk, Wr.s_mk, Wr.l_mk, Wr.cellsL, Wr.z_eq, rcT, wpT]
     ·exact ⟨by omega, hn⟩
     ·(first | omega | (simp only []; omega))
    ·rw [Nat.add_sub_cancel] at g3
     have hm : mwB r.wraps = false := mwB_no (i := k + 1) (by omega) (by rw [he]; rintro ⟨a, b, c, d⟩; have := d (by omega); rw [Nat.add_sub_cancel] at this; omega)
     have hq : rcB r = false := rcB_f (fun h => by have := h.2.2.2.2.2.2; rw [hm] at this; cases this)
     iterate 4 refine a_opd ?_
     refine a_god ?_
     refine a_god ?_
     refine a_god ?_
     refine a_opd ?_
     refine a_opd ?_
     refine a_god ?_
     refine a_god ?_
     refine a_god ?_
     refine a_god ?_
     refine a_opd ?_
     refine a_opd ?_
     refine a_god ?_
     refine a_god ?_
     refine a_god ?_
     refine a_god ?_
     refine a_god ?_
     refine a_god ?_
     refine a_god (hs := by (simp (disch := omega) only [push_cast, reduceCtorEq, show ((k : Int) + 1 - 1) = k from by omega] <;> rfl)) ?_
     refine a_god ?_
     refine a_god ?_
     refine a_god ?_
     refine a_god ?_
     refine a_god ?_
     refine a_god ?_
     refine a_god ?_
     refine a_opd ?_
     refine s_nil (r_true (by kernel_rfl) ?_)
     refine q_next ?_
     refine a_true ?_
     refine k_seq ?_
     refine k_region rfl ?_
     refine a_op ?_
     refine s_nil (r_false ?_)
     refine q_next ?_
     refine k_ret ?_
     refine q_block_ret (q_seq_ret (q_loopF_ret (q_block_ret (q_seq_ret ?_))))
     refine ⟨.inr rfl, a_ret [] (by rw [results20]) ?_ ?_ ?_⟩ <;> simp [-List.map_set, -List.map_replicate, -List.reduceReplicate, -List.map_map, -List.map_drop, -List.map_take, num, bol, txt, w8, w16, w32, w64, lst, cls, rowO, boxO, List.take_of_length_le, Wr.cellsL_len, wA, Wr.k_mk, Wr.n_mk, Wr.s_mk, Wr.l_mk, Wr.cellsL, Wr.z_eq, rcT, wpT, hq]
    ·rw [Nat.add_sub_cancel] at g3
     have hn := ok_next hI (by rw [he]; exact ⟨g0, g1, g2, fun _ => by rw [Nat.add_sub_cancel]; exact g3⟩)
     iterate 4 refine a_opd ?_
     refine a_god ?_
     refine a_god ?_
     refine a_god ?_
     refine a_opd ?_
     refine a_opd ?_
     refine a_god ?_
     refine a_god ?_
     refine a_god ?_
     refine a_god ?_
     refine a_opd ?_
     refine a_opd ?_
     refine a_god ?_
     refine a_god ?_
     refine a_god ?_
     refine a_god ?_
     refine a_god ?_
     refine a_god ?_
     refine a_god (hs := by (simp (disch := omega) only [push_cast, reduceCtorEq, show ((k : Int) + 1 - 1) = k from by omega] <;> rfl)) ?_
     refine a_god ?_
     refine a_god ?_
     refine a_god ?_
     refine a_god ?_
     refine a_god ?_
     refine a_god ?_
     refine a_god ?_
     refine a_opd ?_
     refine s_nil (r_true (by kernel_rfl) ?_)
     refine q_next ?_
     refine a_false ?_
     refine k_skip ?_
     refine q_block (q_next ?_)
     refine k_region rfl ?_
     iterate 3 refine a_op ?_
     refine s_nil (r_false ?_)
     refine q_loopF (k + 1 + 1) (a_le ?_) ?_ ?_
     ·refine le_same ?_ ?_ ?_ <;> simp [-List.map_set, -List.map_replicate, -List.reduceReplicate, -List.map_map, -List.map_drop, -List.map_take, num, bol, txt, w8, w16, w32, w64, lst, cls, rowO, boxO, List.take_of_length_le, Wr.cellsL_len, wA, Wr.k_mk, Wr.n_mk, Wr.s_mk, Wr.l_mk, Wr.cellsL, Wr.z_eq, rcT, wpT]
     ·exact ⟨by omega, hn⟩
     ·(first | omega | (simp only []; omega))
   ·(try simp only [Bool.and_eq_true, Bool.or_eq_true, Bool.or_eq_false_iff, Bool.not_eq_true', Bool.not_eq_false', dec_t, dec_f, Bool.and_eq_false_imp, beq_iff_eq, beq_eq_false_iff_ne, ne_eq] at hc1)
    refine k_exit ?_
    refine q_seq_exit (q_loopF_exit (q_block_exit (q_next ?_)))
    refine k_seq ?_
    refine k_region rfl ?_
    have hm : mwB r.wraps = true := mwB_yes (fun j hj => hI j (by omega))
    have hq : rcB r = true := rcB_t ⟨hs, hs2, hP, hK, hD, hT, hm⟩
    refine a_op ?_
    refine s_nil (r_false ?_)
    refine q_next ?_
    refine k_ret ?_
    refine ⟨.inr rfl, a_ret [] (by rw [results20]) ?_ ?_ ?_⟩ <;> simp [-List.map_set, -List.map_replicate, -List.reduceReplicate, -List.map_map, -List.map_drop, -List.map_take, num, bol, txt, w8, w16, w32, w64, lst, cls, rowO, boxO, List.take_of_length_le, Wr.cellsL_len, wA, Wr.k_mk, Wr.n_mk, Wr.s_mk, Wr.l_mk, Wr.cellsL, Wr.z_eq, rcT, wpT, hq]

end Go.Proofs.Tryz
