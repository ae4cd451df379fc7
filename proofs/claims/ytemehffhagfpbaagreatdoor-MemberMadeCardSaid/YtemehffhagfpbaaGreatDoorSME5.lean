/- Contracts of this program's functions. -/
import Derived.Test.YtemehffhagfpbaaGreatDoorSME4
set_option maxHeartbeats 4000000
set_option maxRecDepth 100000
set_option linter.unusedVariables false
set_option linter.unusedSimpArgs false
namespace Go.Proofs.Tryz
open Go Go.Ot
attribute [local irreducible] wpK wpS seqK blockK loopF regK meetK OpSpec Le rcF hsh inF fl
theorem idx_no (Γ : Gl) (l : List Int) (x : Int) (hl : l.length ≤ 1000000) (h : ∀ j, j < l.length → l.getD j 0 ≠ x) : Go.Ot.Good Γ prog 56 [.t (lst num l), .t (num x)] [] (.t (num (-1))) [] [] := by
 refine a_body F.mix func56 (by rfl) ntmps56 ?_
 refine k_seq ?_
 refine k_region rfl ?_
 refine a_op ?_
 refine s_nil (r_false ?_)
 refine q_next ?_
 refine k_seq ?_
 refine k_seq ?_
 refine k_region rfl ?_
 iterate 3 refine a_op ?_
 refine s_nil (r_false ?_)
 refine q_next ?_
 refine k_block ?_
 refine k_loopF (fun sl L (i : Nat) => ⟨setAll (setBad sl [4, 5, 6, 9, 10, 11, 12, 13, 14, 15, 16, 17, 18]) [(8, .t (num i))], Go.Ot.look (L)⟩) (fun i => i ≤ l.length) (fun i => l.length - i) (0) (a_le ?_) ?_ ?_
 ·refine le_same ?_ ?_ ?_ <;> simp [-List.map_set, -List.map_replicate, -List.reduceReplicate, -List.map_map, -List.map_drop, -List.map_take, num, bol, txt, w8, w16, w32, w64, lst, cls, rowO, boxO, List.take_of_length_le]
 ·(first | omega | simp)
 ·intro i hi
  refine a_st ?_
  refine k_seq ?_
  refine k_region rfl ?_
  refine a_op ?_
  refine s_nil (r_false ?_)
  refine q_next ?_
  refine k_seq ?_
  refine a_if (fun hc0 => ?_) (fun hc0 => ?_)
  ·(try simp only [Bool.and_eq_true, Bool.or_eq_true, Bool.or_eq_false_iff, Bool.not_eq_true', Bool.not_eq_false', dec_t, dec_f, Bool.and_eq_false_imp, beq_iff_eq, beq_eq_false_iff_ne, ne_eq] at hc0)
   refine k_skip ?_
   refine q_next ?_
   refine k_seq ?_
   refine k_block ?_
   refine k_seq ?_
   refine k_region rfl ?_
   refine a_op ?_
   refine a_op ?_
   refine s_nil (r_false ?_)
   refine q_next ?_
   refine k_seq ?_
   refine k_region rfl ?_
   iterate 5 refine a_op ?_
   have hx := h i (by omega)
   obtain ⟨v, hv⟩ : ∃ v, l.getD i 0 = v := ⟨_, rfl⟩
   simp only [hv]
   rw [hv] at hx
   have hx2 : ¬ x = v := fun e => hx e.symm
   refine a_op (hs := by (simp (disch := omega) only [push_cast, reduceCtorEq, hx2] <;> rfl)) ?_
   refine s_nil (r_false ?_)
   refine q_next ?_
   refine a_false ?_
   refine k_skip ?_
   refine q_block (q_next ?_)
   refine k_region rfl ?_
   refine a_op ?_
   refine a_op ?_
   refine s_nil (r_false ?_)
   refine q_loopF (i + 1) (a_le ?_) ?_ ?_
   ·refine le_same ?_ ?_ ?_ <;> simp [-List.map_set, -List.map_replicate, -List.reduceReplicate, -List.map_map, -List.map_drop, -List.map_take, num, bol, txt, w8, w16, w32, w64, lst, cls, rowO, boxO, List.take_of_length_le]
   ·(first | omega | (simp_all <;> omega))
   ·(first | omega | (simp only []; omega))
  ·(try simp only [Bool.and_eq_true, Bool.or_eq_true, Bool.or_eq_false_iff, Bool.not_eq_true', Bool.not_eq_false', dec_t, dec_f, Bool.and_eq_false_imp, beq_iff_eq, beq_eq_false_iff_ne, ne_eq] at hc0)
   refine k_exit ?_
   refine q_seq_exit (q_loopF_exit (q_block_exit (q_next ?_)))
   refine k_seq ?_
   refine k_region rfl ?_
   refine a_op ?_
   refine s_nil (r_false ?_)
   refine q_next ?_
   refine k_ret ?_
   refine ⟨.inr rfl, a_ret [] (by rw [results56]) ?_ ?_ ?_⟩ <;> simp [-List.map_set, -List.map_replicate, -List.reduceReplicate, -List.map_map, -List.map_drop, -List.map_take, num, bol, txt, w8, w16, w32, w64, lst, cls, rowO, boxO, List.take_of_length_le]

theorem idx_yes (Γ : Gl) (l : List Int) (x : Int) (k : Nat) (hl : l.length ≤ 1000000) (hk : k < l.length) (hx : l.getD k 0 = x) (hb : ∀ j, j < k → l.getD j 0 ≠ x) : Go.Ot.Good Γ prog 56 [.t (lst num l), .t (num x)] [] (.t (num k)) [] [] := by
 refine a_body F.mix func56 (by rfl) ntmps56 ?_
 refine k_seq ?_
 refine k_region rfl ?_
 refine a_op ?_
 refine s_nil (r_false ?_)
 refine q_next ?_
 refine k_seq ?_
 refine k_seq ?_
 refine k_region rfl ?_
 iterate 3 refine a_op ?_
 refine s_nil (r_false ?_)
 refine q_next ?_
 refine k_block ?_
 refine k_loopF (fun sl L (i : Nat) => ⟨setAll (setBad sl [4, 5, 6, 9, 10, 11, 12, 13, 14, 15, 16, 17, 18]) [(8, .t (num i))], Go.Ot.look (L)⟩) (fun i => i ≤ k) (fun i => k - i) (0) (a_le ?_) ?_ ?_
 ·refine le_same ?_ ?_ ?_ <;> simp [-List.map_set, -List.map_replicate, -List.reduceReplicate, -List.map_map, -List.map_drop, -List.map_take, num, bol, txt, w8, w16, w32, w64, lst, cls, rowO, boxO, List.take_of_length_le]
 ·(first | omega | simp)
 ·intro i hi
  refine a_st ?_
  refine k_seq ?_
  refine k_region rfl ?_
  refine a_op ?_
  refine s_nil (r_false ?_)
  refine q_next ?_
  refine k_seq ?_
  refine a_true ?_
  refine k_skip ?_
  refine q_next ?_
  refine k_seq ?_
  refine k_block ?_
  refine k_seq ?_
  refine k_region rfl ?_
  refine a_op ?_
  refine a_op ?_
  refine s_nil (r_false ?_)
  refine q_next ?_
  refine k_seq ?_
  refine k_region rfl ?_
  rcases (show i = k ∨ i < k by omega) with rfl | hik
  ·skip
   iterate 5 refine a_op ?_
   simp only [hx]
   refine a_op ?_
   refine s_nil (r_false ?_)
   refine q_next ?_
   refine a_true ?_
   refine k_seq ?_
   refine k_region rfl ?_
   refine a_op ?_
   refine a_op ?_
   refine s_nil (r_false ?_)
   refine q_next ?_
   refine k_ret ?_
   refine q_block_ret (q_seq_ret (q_loopF_ret (q_block_ret (q_seq_ret ?_))))
   refine ⟨.inr rfl, a_ret [] (by rw [results56]) ?_ ?_ ?_⟩ <;> simp [-List.map_set, -List.map_replicate, -List.reduceReplicate, -List.map_map, -List.map_drop, -List.map_take, num, bol, txt, w8, w16, w32, w64, lst, cls, rowO, boxO, List.take_of_length_le]
  ·skip
   iterate 5 refine a_op ?_
   have hx1 := hb i (by omega)
   obtain ⟨v, hv⟩ : ∃ v, l.getD i 0 = v := ⟨_, rfl⟩
   simp only [hv]
   rw [hv] at hx1
   have hx2 : ¬ x = v := fun e => hx1 e.symm
   refine a_op (hs := by (simp (disch := omega) only [push_cast, reduceCtorEq, hx2] <;> rfl)) ?_
   refine s_nil (r_false ?_)
   refine q_next ?_
   refine a_false ?_
   refine k_skip ?_
   refine q_block (q_next ?_)
   refine k_region rfl ?_
   refine a_op ?_
   refine a_op ?_
   refine s_nil (r_false ?_)
   refine q_loopF (i + 1) (a_le ?_) ?_ ?_
   ·refine le_same ?_ ?_ ?_ <;> simp [-List.map_set, -List.map_replicate, -List.reduceReplicate, -List.map_map, -List.map_drop, -List.map_take, num, bol, txt, w8, w16, w32, w64, lst, cls, rowO, boxO, List.take_of_length_le]
   ·(first | omega | (simp_all <;> omega))
   ·omega

theorem cnt_no (Γ : Gl) (l : List Int) (x : Int) (hl : l.length ≤ 1000000) (h : ∀ j, j < l.length → l.getD j 0 ≠ x) : Go.Ot.Good Γ prog 32 [.t (lst num l), .t (num x)] [] (.t (bol false)) [] [] := by
 refine a_body F.mix func32 (by rfl) ntmps32 ?_
 refine k_seq ?_
 refine k_region rfl ?_
 refine a_op ?_
 refine s_nil (r_false ?_)
 refine q_next ?_
 refine k_seq ?_
 refine k_region rfl ?_
 refine a_op ?_
 refine a_op ?_
 refine a_call [] false (idx_no Γ l x hl h) ?_
 refine a_op ?_
 refine a_op ?_
 refine s_nil (r_false ?_)
 refine q_next ?_
 refine k_ret ?_
 refine ⟨.inr rfl, a_ret [] (by rw [results32]) ?_ ?_ ?_⟩ <;> simp [-List.map_set, -List.map_replicate, -List.reduceReplicate, -List.map_map, -List.map_drop, -List.map_take, num, bol, txt, w8, w16, w32, w64, lst, cls, rowO, boxO, List.take_of_length_le]

theorem cnt_yes (Γ : Gl) (l : List Int) (x : Int) (k : Nat) (hl : l.length ≤ 1000000) (hk : k < l.length) (hx : l.getD k 0 = x) (hb : ∀ j, j < k → l.getD j 0 ≠ x) : Go.Ot.Good Γ prog 32 [.t (lst num l), .t (num x)] [] (.t (bol true)) [] [] := by
 refine a_body F.mix func32 (by rfl) ntmps32 ?_
 refine k_seq ?_
 refine k_region rfl ?_
 refine a_op ?_
 refine s_nil (r_false ?_)
 refine q_next ?_
 refine k_seq ?_
 refine k_region rfl ?_
 refine a_op ?_
 refine a_op ?_
 refine a_call [] false (idx_yes Γ l x k hl hk hx hb) ?_
 refine a_op ?_
 refine a_op ?_
 refine s_nil (r_false ?_)
 refine q_next ?_
 refine k_ret ?_
 refine ⟨.inr rfl, a_ret [] (by rw [results32]) ?_ ?_ ?_⟩ <;> simp [-List.map_set, -List.map_replicate, -List.reduceReplicate, -List.map_map, -List.map_drop, -List.map_take, num, bol, txt, w8, w16, w32, w64, lst, cls, rowO, boxO, List.take_of_length_le]

theorem least_of {p : Nat → Prop} (h : ∃ k, p k) : ∃ k, p k ∧ ∀ j, j < k → ¬ p j := by
 obtain ⟨k, hk⟩ := h
 induction k using Nat.strongRecOn with
 | _ k ih =>
  by_cases h : ∃ j, j < k ∧ p j
  ·obtain ⟨j, h1, h2⟩ := h; exact ih j h1 h2
  ·exact ⟨k, hk, fun j hj hp => h ⟨j, hj, hp⟩⟩
theorem cnt_good (Γ : Gl) (l : List Int) (x : Int) (hl : l.length ≤ 1000000) : Go.Ot.Good Γ prog 32 [.t (lst num l), .t (num x)] [] (.t (bol (l.contains x))) [] [] := by
 rcases Classical.em (∃ k, k < l.length ∧ l.getD k 0 = x) with h | h
 ·obtain ⟨k, ⟨h1, h2⟩, h3⟩ := least_of (p := fun k => k < l.length ∧ l.getD k 0 = x) h
  have hc : l.contains x = true := by
   rw [List.contains_iff_mem, ← h2]
   simp only [List.getD_eq_getElem?_getD, List.getElem?_eq_getElem h1, Option.getD_some]
   exact List.getElem_mem h1
  rw [hc]
  exact cnt_yes Γ l x k hl h1 h2 (fun j hj e => h3 j hj ⟨by omega, e⟩)
 ·have hc : l.contains x = false := by
   rcases e : l.contains x with _ | _
   ·rfl
   ·rw [List.contains_iff_mem] at e
    obtain ⟨k, hk, e⟩ := List.mem_iff_getElem.1 e
    exact absurd ⟨k, hk, by simp only [List.getD_eq_getElem?_getD, List.getElem?_eq_getElem hk, Option.getD_some]; exact e⟩ h
  rw [hc]
  exact cnt_no Γ l x hl (fun j hj e => h ⟨j, hj, e⟩)
theorem ck1_good (Γ : Gl) (r : Rc) (n : Int) : Go.Ot.Good Γ prog 19 [.t (num n), .rop [num r.seq, txt r.prev, num r.kind, num r.dev, .sl r.wraps.length (r.wraps.flatMap wpT), txt r.tag]] [] (.t (bol (decide (n = r.dev)))) [] [] := by
 refine a_body F.mix func19 (by rfl) ntmps19 ?_
 refine k_seq ?_
 refine k_region rfl ?_
 refine a_op ?_
 refine s_nil (r_false ?_)
 refine q_next ?_
 refine k_seq ?_
 refine k_region rfl ?_
 iterate 5 refine a_op ?_
 refine s_nil (r_false ?_)
 refine q_next ?_
 refine k_ret ?_
 refine ⟨.inr rfl, a_ret [] (by rw [results19]) ?_ ?_ ?_⟩ <;> simp [-List.map_set, -List.map_replicate, -List.reduceReplicate, -List.map_map, -List.map_drop, -List.map_take, num, bol, txt, w8, w16, w32, w64, lst, cls, rowO, boxO, List.take_of_length_le]

theorem idxf_good (Γ : Gl) (l : List Int) (r : Rc) (k : Nat) (hl : l.length ≤ 1000000) (hk : k < l.length) (hx : l.getD k 0 = r.dev) (hb : ∀ j, j < k → l.getD j 0 ≠ r.dev) : Go.Ot.Good Γ prog 35 [.t (lst num l), .fn 19 [.rop [num r.seq, txt r.prev, num r.kind, num r.dev, .sl r.wraps.length (r.wraps.flatMap wpT), txt r.tag]]] [] (.t (num k)) [] [] := by
 refine a_body F.mix func35 (by rfl) ntmps35 ?_
 refine k_seq ?_
 refine k_region rfl ?_
 refine a_op ?_
 refine s_nil (r_false ?_)
 refine q_next ?_
 refine k_seq ?_
 refine k_seq ?_
 refine k_region rfl ?_
 iterate 3 refine a_op ?_
 refine s_nil (r_false ?_)
 refine q_next ?_
 refine k_block ?_
 refine k_loopF (fun sl L (i : Nat) => ⟨setAll (setBad sl [4, 5, 6, 9, 10, 11, 12, 13, 14, 15, 16, 17, 18]) [(8, .t (num i))], Go.Ot.look (L)⟩) (fun i => i ≤ k) (fun i => k - i) (0) (a_le ?_) ?_ ?_
 ·refine le_same ?_ ?_ ?_ <;> simp [-List.map_set, -List.map_replicate, -List.reduceReplicate, -List.map_map, -List.map_drop, -List.map_take, num, bol, txt, w8, w16, w32, w64, lst, cls, rowO, boxO, List.take_of_length_le]
 ·(first | omega | simp)
 ·intro i hi
  refine a_st ?_
  refine k_seq ?_
  refine k_region rfl ?_
  refine a_op ?_
  refine s_nil (r_false ?_)
  refine q_next ?_
  refine k_seq ?_
  refine a_true ?_
  refine k_skip ?_
  refine q_next ?_
  refine k_seq ?_
  refine k_block ?_
  refine k_seq ?_
  refine k_region rfl ?_
  refine a_op ?_
  refine a_op ?_
  refine s_nil (r_false ?_)
  refine q_next ?_
  refine k_seq ?_
  refine k_region rfl ?_
  rcases (show i = k ∨ i < k by omega) with rfl | hik
  ·skip
   iterate 5 refine a_op ?_
   simp only [hx]
   refine a_call [] false ((by have h := ck1_good Γ r r.dev; rw [decide_eq_true rfl] at h; exact h)) ?_
   refine s_nil (r_false ?_)
   refine q_next ?_
   refine a_true ?_
   refine k_seq ?_
   refine k_region rfl ?_
   refine a_op ?_
   refine a_op ?_
   refine s_nil (r_false ?_)
   refine q_next ?_
   refine k_ret ?_
   refine q_block_ret (q_seq_ret (q_loopF_ret (q_block_ret (q_seq_ret ?_))))
   refine ⟨.inr rfl, a_ret [] (by rw [results35]) ?_ ?_ ?_⟩ <;> simp [-List.map_set, -List.map_replicate, -List.reduceReplicate, -List.map_map, -List.map_drop, -List.map_take, num, bol, txt, w8, w16, w32, w64, lst, cls, rowO, boxO, List.take_of_length_le]
  ·skip
   iterate 5 refine a_op ?_
   have hx1 := hb i (by omega)
   obtain ⟨v, hv⟩ : ∃ v, l.getD i 0 = v := ⟨_, rfl⟩
   simp only [hv]
   rw [hv] at hx1
   refine a_call [] false ((by have h := ck1_good Γ r v; rw [decide_eq_false hx1] at h; exact h)) ?_
   refine s_nil (r_false ?_)
   refine q_next ?_
   refine a_false ?_
   refine k_skip ?_
   refine q_block (q_next ?_)
   refine k_region rfl ?_
   refine a_op ?_
   refine a_op ?_
   refine s_nil (r_false ?_)
   refine q_loopF (i + 1) (a_le ?_) ?_ ?_
   ·refine le_same ?_ ?_ ?_ <;> simp [-List.map_set, -List.map_replicate, -List.reduceReplicate, -List.map_map, -List.map_drop, -List.map_take, num, bol, txt, w8, w16, w32, w64, lst, cls, rowO, boxO, List.take_of_length_le]
   ·(first | omega | (simp_all <;> omega))
   ·omega

theorem del_good (Γ : Gl) (l : List Int) (r : Rc) (k : Nat) (hl : l.length ≤ 1000000) (hk : k < l.length) (hx : l.getD k 0 = r.dev) (hb : ∀ j, j < k → l.getD j 0 ≠ r.dev) : Go.Ot.Good Γ prog 18 [.msl (.p 0) 0 l.length 1, .fn 19 [.rop [num r.seq, txt r.prev, num r.kind, num r.dev, .sl r.wraps.length (r.wraps.flatMap wpT), txt r.tag]]] [rowO 3 num (l)] (.msl (.p 0) 0 (fl l r.dev).length 1) [some (rowO 3 num (fl l r.dev))] [] := by
 have hft := fl_take hb k (Nat.le_refl _) (by omega)
 have hf1 : fl (l.take (k + 1)) r.dev = l.take k := by rw [fl_snoc l r.dev hk, if_neg (by rw [hx]; simp), hft]
 have hr1 := row_one hk
 rw [hx] at hr1
 refine a_body F.mix func18 (by rfl) ntmps18 ?_
 refine k_seq ?_
 refine k_region rfl ?_
 refine a_op ?_
 refine s_nil (r_false ?_)
 refine q_next ?_
 refine k_seq ?_
 refine k_region rfl ?_
 refine a_op ?_
 refine a_op ?_
 refine a_call [.p 0] false (idxf_good Γ l r k hl hk hx hb) ?_
 refine a_op ?_
 refine s_nil (r_false ?_)
 refine q_next ?_
 refine k_seq ?_
 refine k_seq ?_
 refine k_region rfl ?_
 refine a_op ?_
 refine a_op ?_
 refine s_nil (r_false ?_)
 refine q_next ?_
 refine a_false ?_
 refine k_skip ?_
 refine q_next ?_
 refine k_seq ?_
 refine k_seq ?_
 refine k_region rfl ?_
 iterate 3 refine a_op ?_
 refine s_nil (r_false ?_)
 refine q_next ?_
 refine k_block ?_
 refine k_loopF (fun sl L (q : Nat × List Int × List Int) => ⟨setAll (setBad sl [7, 8, 9, 10, 11, 12, 13, 14, 15, 16, 17, 18, 19, 20, 21, 22, 23, 24, 25, 26, 27, 28, 29, 30, 31, 32, 33, 34, 35]) [(5, .t (num (fl (l.take q.1) r.dev).length)), (6, .t (num q.1))], Go.Ot.look (putL (.p 0) (rowO 3 num (q.2.2)) L)⟩) (fun q => k + 1 ≤ q.1 ∧ q.1 ≤ l.length ∧ (fl (l.take q.1) r.dev).length + q.2.1.length = q.1 ∧ q.2.1 ≠ [] ∧ q.2.2 = (fl (l.take q.1) r.dev) ++ q.2.1 ++ l.drop q.1) (fun q => l.length - q.1) ((k + 1, [r.dev], l)) (a_le ?_) ?_ ?_
 ·refine le_same ?_ ?_ ?_ <;> simp [-List.map_set, -List.map_replicate, -List.reduceReplicate, -List.map_map, -List.map_drop, -List.map_take, num, bol, txt, w8, w16, w32, w64, lst, cls, rowO, boxO, List.take_of_length_le, hf1, Nat.min_eq_left (Nat.le_of_lt hk)]
 ·refine ⟨Nat.le_refl _, by simp only []; omega, ?_, by simp, by simp only [hf1, hr1]⟩
  simp only [hf1, List.length_take, List.length_cons, List.length_nil]; omega
 ·rintro ⟨j, G, R⟩ ⟨hkj, hj, hsum, hne, hR⟩
  simp only at hkj hj hsum hne hR
  have hRl : R.length = l.length := by rw [hR]; simp; omega
  refine a_st ?_
  refine k_seq ?_
  refine k_seq ?_
  refine k_region rfl ?_
  iterate 4 refine a_op ?_
  refine s_nil (r_false ?_)
  refine q_next ?_
  refine a_if (fun hc1 => ?_) (fun hc1 => ?_)
  ·(try simp only [Bool.and_eq_true, Bool.or_eq_true, Bool.or_eq_false_iff, Bool.not_eq_true', Bool.not_eq_false', dec_t, dec_f, Bool.and_eq_false_imp, beq_iff_eq, beq_eq_false_iff_ne, ne_eq] at hc1)
   refine k_skip ?_
   refine q_next ?_
   refine k_seq ?_
   refine k_block ?_
   refine k_seq ?_
   refine k_region rfl ?_
   iterate 4 refine a_op ?_
   obtain ⟨v, hv⟩ : ∃ v, l.getD j 0 = v := ⟨_, rfl⟩
   have hv2 := row_get (F := fl (l.take j) r.dev) (G := G) (l := l) hsum (by omega)
   rw [hv, ← hR] at hv2
   simp only [hv2]
   refine a_op ?_
   refine s_nil (r_false ?_)
   refine q_next ?_
   refine k_seq ?_
   refine k_region rfl ?_
   refine a_op ?_
   refine a_op ?_
   refine a_call [] false (ck1_good Γ r v) ?_
   refine a_op ?_
   refine s_nil (r_false ?_)
   refine q_next ?_
   refine a_if (fun hc2 => ?_) (fun hc2 => ?_)
   ·(try simp only [Bool.and_eq_true, Bool.or_eq_true, Bool.or_eq_false_iff, Bool.not_eq_true', Bool.not_eq_false', dec_t, dec_f, Bool.and_eq_false_imp, beq_iff_eq, beq_eq_false_iff_ne, ne_eq] at hc2)
    refine k_seq ?_
    refine k_region rfl ?_
    iterate 5 refine a_op ?_
    refine s_nil (r_false ?_)
    refine q_next ?_
    refine k_region rfl ?_
    iterate 3 refine a_op ?_
    refine s_nil (r_false ?_)
    refine q_block (q_next ?_)
    refine k_region rfl ?_
    iterate 3 refine a_op ?_
    refine s_nil (r_false ?_)
    have hs := fl_snoc l r.dev (j := j) (by omega)
    rw [hv] at hs
    rw [if_pos (by simpa using hc2)] at hs
    obtain ⟨g, G, rfl⟩ := List.exists_cons_of_ne_nil hne
    have hkp := row_keep (F := fl (l.take j) r.dev) (G := G) (l := l) (j := j) (g := g) (by omega)
    rw [hv, ← hR] at hkp
    refine q_loopF ((j + 1, G ++ [v], R.set (fl (l.take j) r.dev).length v)) (a_le ?_) ?_ ?_
    ·refine le_same ?_ ?_ ?_ <;> simp [-List.map_set, -List.map_replicate, -List.reduceReplicate, -List.map_map, -List.map_drop, -List.map_take, num, bol, txt, w8, w16, w32, w64, lst, cls, rowO, boxO, List.take_of_length_le, hs]
    ·refine ⟨by simp only []; omega, by simp only []; omega, ?_, by simp, by simp only [hs]; exact hkp⟩
     simp only [hs, List.length_append, List.length_cons, List.length_nil, List.length_tail] at hsum ⊢; omega
    ·simp only []; omega
   ·(try simp only [Bool.and_eq_true, Bool.or_eq_true, Bool.or_eq_false_iff, Bool.not_eq_true', Bool.not_eq_false', dec_t, dec_f, Bool.and_eq_false_imp, beq_iff_eq, beq_eq_false_iff_ne, ne_eq] at hc2)
    refine k_skip ?_
    refine q_block (q_next ?_)
    refine k_region rfl ?_
    iterate 3 refine a_op ?_
    refine s_nil (r_false ?_)
    have hs := fl_snoc l r.dev (j := j) (by omega)
    rw [hv] at hs
    rw [if_neg (by simpa using hc2)] at hs
    have hkp := row_drop (F := fl (l.take j) r.dev) (G := G) (l := l) (j := j) (by omega)
    rw [hv, ← hR] at hkp
    refine q_loopF ((j + 1, G ++ [v], R)) (a_le ?_) ?_ ?_
    ·refine le_same ?_ ?_ ?_ <;> simp [-List.map_set, -List.map_replicate, -List.reduceReplicate, -List.map_map, -List.map_drop, -List.map_take, num, bol, txt, w8, w16, w32, w64, lst, cls, rowO, boxO, List.take_of_length_le, hs]
    ·refine ⟨by simp only []; omega, by simp only []; omega, ?_, by simp, by simp only [hs]; exact hkp⟩
     simp only [hs, List.length_append, List.length_cons, List.length_nil, List.length_tail] at hsum ⊢; omega
    ·simp only []; omega
  ·(try simp only [Bool.and_eq_true, Bool.or_eq_true, Bool.or_eq_false_iff, Bool.not_eq_true', Bool.not_eq_false', dec_t, dec_f, Bool.and_eq_false_imp, beq_iff_eq, beq_eq_false_iff_ne, ne_eq] at hc1)
   refine k_exit ?_
   refine q_seq_exit (q_loopF_exit (q_block_exit (q_next ?_)))
   refine k_seq ?_
   refine k_region rfl ?_
   obtain rfl : j = l.length := by omega
   obtain ⟨FF, hFF⟩ : ∃ FF, fl l r.dev = FF := ⟨_, rfl⟩
   simp only [List.take_length, List.drop_length, List.append_nil, hFF] at hsum hR ⊢
   have hG : 0 < G.length := List.length_pos_iff.2 hne
   have hGn : l.length - FF.length = G.length := by omega
   subst hR
   iterate 3 refine a_op ?_
   refine a_by (spec_clear (x := .tmp 38) 39 rfl (F.u39) (z := .int .i64 0) (by intro w; kernel_rfl) rfl rfl (m := .p 0) (off := FF.length) (n := G.length) (ob := ⟨(FF.map num).map D.t ++ (G.map num).map D.t, 3, true, true⟩) (by first | rfl | (simp only [push_cast, hGn] <;> rfl)) (by first | rfl | (simp only [push_cast]; rfl)) rfl (by omega) (by simp) (dz := num 0) (fun w M => rfl)) ?_
   refine s_nil (r_false ?_)
   rw [row_clear]
   refine q_weak (le_shrinkL (.p 0) FF.length rfl rfl) (a_st ?_)
   rw [row_shrink]
   refine k_seq ?_
   refine k_region rfl ?_
   iterate 4 refine a_op ?_
   refine s_nil (r_false ?_)
   refine q_next ?_
   refine k_ret ?_
   refine ⟨.inr rfl, a_ret [(.p 0, .p 0)] (by rw [results18]) ?_ ?_ ?_⟩ <;> simp [-List.map_set, -List.map_replicate, -List.reduceReplicate, -List.map_map, -List.map_drop, -List.map_take, num, bol, txt, w8, w16, w32, w64, lst, cls, rowO, boxO, List.take_of_length_le, hFF]

end Go.Proofs.Tryz
