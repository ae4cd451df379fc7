/- Contracts of this program's functions. -/
import Derived.Test.YtppicdhlpdhoiaaGreatDoorSSR2
import Derived.Test.YtppicdhlpdhoiaaGreatDoorSSA
set_option maxHeartbeats 4000000
set_option maxRecDepth 100000
set_option linter.unusedVariables false
set_option linter.unusedSimpArgs false
namespace Go.Proofs.Tryz
open Go Go.Ot

def bigF (f : Ft) : Bool := decide (100 < f.key.length ∨ 400 < f.item.length)
def grS (s : Sa) : Bool := ((List.range (min 100 s.fs.length)).any fun i => bigF (s.fs.getD i default)) || (decide (60 < s.seen.length) || decide (80 < s.fs.length))
theorem grS_hit {s : Sa} {i : Nat} (hi : i < min 100 s.fs.length) (h : bigF (s.fs.getD i default) = true) : grS s = true := by
 have : ((List.range (min 100 s.fs.length)).any fun i => bigF (s.fs.getD i default)) = true := List.any_eq_true.2 ⟨i, List.mem_range.2 hi, h⟩
 rw [grS, this]; rfl
theorem grS_no {s : Sa} {n : Nat} (hn : n = min 100 s.fs.length) (h : ∀ j, j < n → bigF (s.fs.getD j default) = false) : grS s = (decide (60 < s.seen.length) || decide (80 < s.fs.length)) := by
 have : ((List.range (min 100 s.fs.length)).any fun i => bigF (s.fs.getD i default)) = false := by
  rw [List.any_eq_false]; intro i hi
  rw [h i (by rw [hn]; exact List.mem_range.1 hi)]; decide
 rw [grS, this, Bool.false_or]
theorem grS_f {s : Sa} (h : grS s = false) : s.seen.length ≤ 60 ∧ s.fs.length ≤ 80 := by
 rw [grS, Bool.or_eq_false_iff, Bool.or_eq_false_iff] at h
 have h1 := of_decide_eq_false h.2.1
 have h2 := of_decide_eq_false h.2.2
 omega
theorem GS_b {s : List UInt8} {x : Sa} (h : GS s = some x) : x.seen.length ≤ 65536 ∧ x.fs.length ≤ 65536 := by
 rw [GS] at h
 split at h
 ·cases h
 ·rename_i hn
  simp only [not_or, ne_eq, Decidable.not_not] at hn
  rcases hg : got s with _ | W
  ·rw [hg] at h; cases h; simp [stOf, Wr.z, Wr.l]
  ·rw [hg] at h; cases h; exact stOf_few hg
attribute [local irreducible] wpK wpS seqK blockK loopF regK meetK OpSpec Le rdS lpW rdW got mayS mayW putS putW nb u64 PutW stF saB
theorem great_good (Γ : Gl) (s : Sa) (hs1 : s.seen.length ≤ 9223372036854775807) (hs2 : s.fs.length ≤ 9223372036854775807) : Go.Ot.Good Γ prog 4 [.agg [.t (.sl s.seen.length (s.seen.flatMap rnT)), .t (.sl s.fs.length (s.fs.flatMap ftT))]] [] (.t (bol (grS s))) [] [] := by
 refine a_body F.mix func4 (by rfl) ntmps4 ?_
 refine k_seq ?_
 refine k_region rfl ?_
 refine a_op ?_
 refine a_op ?_
 refine s_nil (r_false ?_)
 refine q_next ?_
 refine k_seq ?_
 refine k_seq ?_
 refine k_region rfl ?_
 refine a_op ?_
 refine s_nil (r_false ?_)
 refine q_next ?_
 refine k_block ?_
 refine k_loopF (fun sl L (i : Nat) => ⟨setAll (setBad sl [0, 2, 4, 5, 6, 7, 8, 9, 10, 11, 12, 13, 14, 15, 16, 17, 18, 19, 20, 21, 22, 23, 24, 25, 26, 27, 28, 29, 30, 31, 32]) [(3, .t (num i))], Go.Ot.look (L)⟩) (fun i => (i ≤ s.fs.length ∧ i ≤ 100) ∧ ∀ j, j < i → bigF (s.fs.getD j default) = false) (fun i => s.fs.length - i) (0) (a_le ?_) ?_ ?_
 ·refine le_of [(.r 0 0 0, .r 0 0 0)] ?_ ?_ ?_ <;> simp [-List.map_set, -List.map_replicate, -List.reduceReplicate, -List.map_map, -List.map_drop, -List.map_take, num, bol, txt, w8, w16, w32, w64, lst, cls, rowO, boxO, List.take_of_length_le, Wr.cellsL_len, wA, Wr.k_mk, Wr.n_mk, Wr.s_mk, Wr.l_mk, Wr.cellsL, Wr.z_eq, rnT, ftT]
 ·exact ⟨⟨Nat.zero_le _, Nat.zero_le _⟩, fun j hj => by omega⟩
 ·rintro i ⟨⟨hi, hi2⟩, hI⟩
  refine a_st ?_
  refine k_seq ?_
  refine k_seq ?_
  refine k_region rfl ?_
  rcases (show i = s.fs.length ∨ (i < s.fs.length ∧ i = 100) ∨ (i < s.fs.length ∧ i < 100) by omega) with g | ⟨g, g2⟩ | ⟨g, g2⟩
  ·skip
   iterate 6 refine a_op ?_
   refine a_no ?_
   refine a_no ?_
   refine a_op ?_
   refine s_nil (r_false ?_)
   refine q_next ?_
   refine a_false ?_
   refine k_exit ?_
   refine q_seq_exit (q_loopF_exit (q_block_exit (q_next ?_)))
   refine k_seq ?_
   refine k_region rfl ?_
   have hq := grS_no (s := s) (n := i) (by omega) hI
   rcases (show 60 < s.seen.length ∨ (s.seen.length ≤ 60 ∧ 80 < s.fs.length) ∨ (s.seen.length ≤ 60 ∧ s.fs.length ≤ 80) by omega) with k1 | ⟨k1, k2⟩ | ⟨k1, k2⟩
   ·rw [decide_eq_true k1] at hq
    simp only [Bool.true_or] at hq
    iterate 5 refine a_op ?_
    refine a_no ?_
    refine a_no ?_
    refine a_no ?_
    refine a_no ?_
    refine a_op ?_
    refine a_op ?_
    refine s_nil (r_false ?_)
    refine q_next ?_
    refine k_ret ?_
    refine ⟨.inr rfl, a_ret [] (by rw [results4]) ?_ ?_ ?_⟩ <;> simp [-List.map_set, -List.map_replicate, -List.reduceReplicate, -List.map_map, -List.map_drop, -List.map_take, num, bol, txt, w8, w16, w32, w64, lst, cls, rowO, boxO, List.take_of_length_le, Wr.cellsL_len, wA, Wr.k_mk, Wr.n_mk, Wr.s_mk, Wr.l_mk, Wr.cellsL, Wr.z_eq, rnT, ftT, hq]
   ·rw [decide_eq_false (show ¬ 60 < s.seen.length by omega), decide_eq_true k2] at hq
    simp only [Bool.false_or] at hq
    iterate 5 refine a_op ?_
    refine a_go ?_
    refine a_go ?_
    refine a_go ?_
    refine a_go ?_
    refine a_op ?_
    refine a_op ?_
    refine s_nil (r_false ?_)
    refine q_next ?_
    refine k_ret ?_
    refine ⟨.inr rfl, a_ret [] (by rw [results4]) ?_ ?_ ?_⟩ <;> simp [-List.map_set, -List.map_replicate, -List.reduceReplicate, -List.map_map, -List.map_drop, -List.map_take, num, bol, txt, w8, w16, w32, w64, lst, cls, rowO, boxO, List.take_of_length_le, Wr.cellsL_len, wA, Wr.k_mk, Wr.n_mk, Wr.s_mk, Wr.l_mk, Wr.cellsL, Wr.z_eq, rnT, ftT, hq]
   ·rw [decide_eq_false (show ¬ 60 < s.seen.length by omega), decide_eq_false (show ¬ 80 < s.fs.length by omega)] at hq
    simp only [Bool.or_false] at hq
    iterate 5 refine a_op ?_
    refine a_go ?_
    refine a_go ?_
    refine a_go ?_
    refine a_go ?_
    refine a_op ?_
    refine a_op ?_
    refine s_nil (r_false ?_)
    refine q_next ?_
    refine k_ret ?_
    refine ⟨.inr rfl, a_ret [] (by rw [results4]) ?_ ?_ ?_⟩ <;> simp [-List.map_set, -List.map_replicate, -List.reduceReplicate, -List.map_map, -List.map_drop, -List.map_take, num, bol, txt, w8, w16, w32, w64, lst, cls, rowO, boxO, List.take_of_length_le, Wr.cellsL_len, wA, Wr.k_mk, Wr.n_mk, Wr.s_mk, Wr.l_mk, Wr.cellsL, Wr.z_eq, rnT, ftT, hq]
  ·skip
   iterate 6 refine a_op ?_
   refine a_go ?_
   refine a_go ?_
   refine a_op ?_
   refine s_nil (r_false ?_)
   refine q_next ?_
   refine a_false ?_
   refine k_exit ?_
   refine q_seq_exit (q_loopF_exit (q_block_exit (q_next ?_)))
   refine k_seq ?_
   refine k_region rfl ?_
   have hq := grS_no (s := s) (n := i) (by omega) hI
   rcases (show 60 < s.seen.length ∨ (s.seen.length ≤ 60 ∧ 80 < s.fs.length) by omega) with k1 | ⟨k1, k2⟩
   ·rw [decide_eq_true k1] at hq
    simp only [Bool.true_or] at hq
    iterate 5 refine a_op ?_
    refine a_no ?_
    refine a_no ?_
    refine a_no ?_
    refine a_no ?_
    refine a_op ?_
    refine a_op ?_
    refine s_nil (r_false ?_)
    refine q_next ?_
    refine k_ret ?_
    refine ⟨.inr rfl, a_ret [] (by rw [results4]) ?_ ?_ ?_⟩ <;> simp [-List.map_set, -List.map_replicate, -List.reduceReplicate, -List.map_map, -List.map_drop, -List.map_take, num, bol, txt, w8, w16, w32, w64, lst, cls, rowO, boxO, List.take_of_length_le, Wr.cellsL_len, wA, Wr.k_mk, Wr.n_mk, Wr.s_mk, Wr.l_mk, Wr.cellsL, Wr.z_eq, rnT, ftT, hq]
   ·rw [decide_eq_false (show ¬ 60 < s.seen.length by omega), decide_eq_true k2] at hq
    simp only [Bool.false_or] at hq
    iterate 5 refine a_op ?_
    refine a_go ?_
    refine a_go ?_
    refine a_go ?_
    refine a_go ?_
    refine a_op ?_
    refine a_op ?_
    refine s_nil (r_false ?_)
    refine q_next ?_
    refine k_ret ?_
    refine ⟨.inr rfl, a_ret [] (by rw [results4]) ?_ ?_ ?_⟩ <;> simp [-List.map_set, -List.map_replicate, -List.reduceReplicate, -List.map_map, -List.map_drop, -List.map_take, num, bol, txt, w8, w16, w32, w64, lst, cls, rowO, boxO, List.take_of_length_le, Wr.cellsL_len, wA, Wr.k_mk, Wr.n_mk, Wr.s_mk, Wr.l_mk, Wr.cellsL, Wr.z_eq, rnT, ftT, hq]
  ·skip
   iterate 6 refine a_op ?_
   refine a_go ?_
   refine a_go ?_
   refine a_op ?_
   refine s_nil (r_false ?_)
   refine q_next ?_
   refine a_true ?_
   refine k_skip ?_
   refine q_next ?_
   refine k_seq ?_
   refine k_block ?_
   refine k_seq ?_
   refine k_region rfl ?_
   obtain ⟨f, he⟩ : ∃ f, s.fs.getD i default = f := ⟨_, rfl⟩
   rcases (show 100 < f.key.length ∨ (f.key.length ≤ 100 ∧ 400 < f.item.length) ∨ (f.key.length ≤ 100 ∧ f.item.length ≤ 400) by omega) with k1 | ⟨k1, k2⟩ | ⟨k1, k2⟩
   ·have hq : grS s = true := grS_hit (i := i) (by omega) (by rw [he]; exact decide_eq_true (by omega))
    iterate 6 refine a_op ?_
    simp only [he]
    iterate 3 refine a_op ?_
    refine a_no ?_
    refine a_no ?_
    refine a_no ?_
    refine a_no ?_
    refine a_no ?_
    refine a_no ?_
    
    refine a_no ?_
    refine a_no ?_
    refine a_op ?_
    refine s_nil (r_false ?_)
    refine q_next ?_
    refine a_true ?_
    refine k_seq ?_
    refine k_region rfl ?_
    refine a_op ?_
    refine s_nil (r_false ?_)
    refine q_next ?_
    refine k_ret ?_
    refine q_block_ret (q_seq_ret (q_loopF_ret (q_block_ret (q_seq_ret ?_))))
    refine ⟨.inr rfl, a_ret [] (by rw [results4]) ?_ ?_ ?_⟩ <;> simp [-List.map_set, -List.map_replicate, -List.reduceReplicate, -List.map_map, -List.map_drop, -List.map_take, num, bol, txt, w8, w16, w32, w64, lst, cls, rowO, boxO, List.take_of_length_le, Wr.cellsL_len, wA, Wr.k_mk, Wr.n_mk, Wr.s_mk, Wr.l_mk, Wr.cellsL, Wr.z_eq, rnT, ftT, hq]
   ·have hq : grS s = true := grS_hit (i := i) (by omega) (by rw [he]; exact decide_eq_true (by omega))
    iterate 6 refine a_op ?_
    simp only [he]
    iterate 3 refine a_op ?_
    refine a_go ?_
    refine a_go ?_
    refine a_go ?_
    refine a_go ?_
    refine a_go ?_
    refine a_go ?_
    simp only [he]
    refine a_go ?_
    refine a_go ?_
    refine a_op ?_
    refine s_nil (r_false ?_)
    refine q_next ?_
    refine a_true ?_
    refine k_seq ?_
    refine k_region rfl ?_
    refine a_op ?_
    refine s_nil (r_false ?_)
    refine q_next ?_
    refine k_ret ?_
    refine q_block_ret (q_seq_ret (q_loopF_ret (q_block_ret (q_seq_ret ?_))))
    refine ⟨.inr rfl, a_ret [] (by rw [results4]) ?_ ?_ ?_⟩ <;> simp [-List.map_set, -List.map_replicate, -List.reduceReplicate, -List.map_map, -List.map_drop, -List.map_take, num, bol, txt, w8, w16, w32, w64, lst, cls, rowO, boxO, List.take_of_length_le, Wr.cellsL_len, wA, Wr.k_mk, Wr.n_mk, Wr.s_mk, Wr.l_mk, Wr.cellsL, Wr.z_eq, rnT, ftT, hq]
   ·have hno : bigF (s.fs.getD i default) = false := by rw [he]; exact decide_eq_false (by omega)
    iterate 6 refine a_op ?_
    simp only [he]
    iterate 3 refine a_op ?_
    refine a_go ?_
    refine a_go ?_
    refine a_go ?_
    refine a_go ?_
    refine a_go ?_
    refine a_go ?_
    simp only [he]
    refine a_go ?_
    refine a_go ?_
    refine a_op ?_
    refine s_nil (r_false ?_)
    refine q_next ?_
    refine a_false ?_
    refine k_skip ?_
    refine q_block (q_next ?_)
    refine k_region rfl ?_
    iterate 3 refine a_op ?_
    refine s_nil (r_false ?_)
    refine q_loopF (i + 1) (a_le ?_) ?_ ?_
    ·refine le_of [(.r 0 0 0, .r 0 0 0)] ?_ ?_ ?_ <;> simp [-List.map_set, -List.map_replicate, -List.reduceReplicate, -List.map_map, -List.map_drop, -List.map_take, num, bol, txt, w8, w16, w32, w64, lst, cls, rowO, boxO, List.take_of_length_le, Wr.cellsL_len, wA, Wr.k_mk, Wr.n_mk, Wr.s_mk, Wr.l_mk, Wr.cellsL, Wr.z_eq, rnT, ftT]
    ·exact ⟨⟨by omega, by omega⟩, fun j hj => by rcases Nat.lt_or_eq_of_le (Nat.le_of_lt_succ hj) with e | e; exact hI j e; (subst e; exact hno)⟩
    ·(first | omega | (simp only []; omega))

theorem all_law_good (Γ : Gl) (hE : EG Γ) (s : Sa) (b : List UInt8) (hs1 : s.seen.length ≤ 9223372036854775807) (hs2 : s.fs.length ≤ 9223372036854775807) : Go.Ot.Good Γ prog 3 [.agg [.t (.sl s.seen.length (s.seen.flatMap rnT)), .t (.sl s.fs.length (s.fs.flatMap ftT))], .t (txt b)] [] (.t (bol true)) [] [] := by
 refine a_body F.mix func3 (by rfl) ntmps3 ?_
 refine k_seq ?_
 refine k_region rfl ?_
 refine a_op ?_
 refine a_op ?_
 refine s_nil (r_false ?_)
 refine q_next ?_
 refine k_seq ?_
 refine k_seq ?_
 refine k_region rfl ?_
 have h4 : grS s = true ∨ (grS s = false ∧ 3000 < b.length) ∨ (grS s = false ∧ b.length ≤ 3000 ∧ ∃ x, GS b = some x) ∨ (grS s = false ∧ b.length ≤ 3000 ∧ GS b = none) := by
  rcases grS s with _ | _
  ·rcases (show 3000 < b.length ∨ b.length ≤ 3000 by omega) with h | h
   ·exact .inr (.inl ⟨rfl, h⟩)
   ·rcases hg : GS b with _ | x
    ·exact .inr (.inr (.inr ⟨rfl, h, rfl⟩))
    ·exact .inr (.inr (.inl ⟨rfl, h, x, rfl⟩))
  ·exact .inl rfl
 rcases h4 with hgr | ⟨hgr, hb⟩ | ⟨hgr, hb, x, hg⟩ | ⟨hgr, hb, hg⟩
 ·skip
  refine a_op ?_
  refine a_call [] false ((by have h := great_good Γ s hs1 hs2; rw [hgr] at h; exact h)) ?_
  refine a_op ?_
  refine a_no ?_
  refine a_no ?_
  refine a_no ?_
  refine a_op ?_
  refine s_nil (r_false ?_)
  refine q_next ?_
  refine a_true ?_
  refine k_seq ?_
  refine k_region rfl ?_
  refine a_call [] false (awake_good Γ hE) ?_
  refine a_op ?_
  refine s_nil (r_false ?_)
  refine q_next ?_
  refine k_ret ?_
  refine q_seq_ret ?_
  refine ⟨.inr rfl, a_ret [] (by rw [results3]) ?_ ?_ ?_⟩ <;> simp [-List.map_set, -List.map_replicate, -List.reduceReplicate, -List.map_map, -List.map_drop, -List.map_take, num, bol, txt, w8, w16, w32, w64, lst, cls, rowO, boxO, List.take_of_length_le, Wr.cellsL_len, wA, Wr.k_mk, Wr.n_mk, Wr.s_mk, Wr.l_mk, Wr.cellsL, Wr.z_eq, rnT, ftT]
 ·skip
  refine a_op ?_
  refine a_call [] false ((by have h := great_good Γ s hs1 hs2; rw [hgr] at h; exact h)) ?_
  refine a_op ?_
  refine a_go ?_
  refine a_go ?_
  refine a_go ?_
  refine a_op ?_
  refine s_nil (r_false ?_)
  refine q_next ?_
  refine a_true ?_
  refine k_seq ?_
  refine k_region rfl ?_
  refine a_call [] false (awake_good Γ hE) ?_
  refine a_op ?_
  refine s_nil (r_false ?_)
  refine q_next ?_
  refine k_ret ?_
  refine q_seq_ret ?_
  refine ⟨.inr rfl, a_ret [] (by rw [results3]) ?_ ?_ ?_⟩ <;> simp [-List.map_set, -List.map_replicate, -List.reduceReplicate, -List.map_map, -List.map_drop, -List.map_take, num, bol, txt, w8, w16, w32, w64, lst, cls, rowO, boxO, List.take_of_length_le, Wr.cellsL_len, wA, Wr.k_mk, Wr.n_mk, Wr.s_mk, Wr.l_mk, Wr.cellsL, Wr.z_eq, rnT, ftT]
 ·have hxb := GS_b hg
  have hgf := grS_f hgr
  refine a_op ?_
  refine a_call [] false ((by have h := great_good Γ s hs1 hs2; rw [hgr] at h; exact h)) ?_
  refine a_op ?_
  refine a_go ?_
  refine a_go ?_
  refine a_go ?_
  refine a_op ?_
  refine s_nil (r_false ?_)
  refine q_next ?_
  refine a_false ?_
  refine k_skip ?_
  refine q_next ?_
  refine k_seq ?_
  refine k_region rfl ?_
  refine a_op ?_
  refine a_call [] true ((by have h := sget_good Γ hE (b) (by omega); rw [hg] at h; exact h)) ?_
  iterate 6 refine a_op ?_
  refine s_nil (r_false ?_)
  refine q_next ?_
  refine k_seq ?_
  refine k_region rfl ?_
  refine a_op ?_
  refine a_call [] true ((by have h := sgetR_good Γ b (by omega); rw [hg] at h; exact h)) ?_
  refine a_op ?_
  refine a_op ?_
  refine s_nil (r_false ?_)
  refine q_next ?_
  refine k_seq ?_
  refine k_region rfl ?_
  refine a_opd ?_
  refine a_calld [] false (sput_good Γ s (by omega) (by omega)) ?_
  refine a_opd ?_
  refine a_calld [] false (sputR_good Γ s (by omega) (by omega)) ?_
  refine a_opd (hs := by (simp (disch := first | omega | (simp only [List.length_drop, List.length_take, List.length_map, List.length_append, List.length_cons, List.length_nil, List.length_replicate, List.length_set] <;> omega) | (simp only [push_cast] <;> omega) | fail) only [push_cast, reduceCtorEq, Nat.reduceAdd, Nat.reduceSub, Nat.reduceMul, Nat.reduceEqDiff, Nat.reduceLT, Nat.reduceLeDiff, Nat.reduceMod, Nat.reduceDiv, Int.reduceLE, Int.reduceLT, Int.reduceEq, Int.reduceToNat, Int.reduceAdd, Int.reduceSub, Int.reduceMul, Int.reduceNeg, beq_self_eq_true] <;> rfl)) ?_
  refine a_opd ?_
  refine a_god ?_
  refine a_god ?_
  refine a_god ?_
  refine a_callgod [] false ((by have h := same_good Γ x x (by omega) (by omega) (by omega) (by omega); rw [decide_eq_true rfl] at h; exact h)) ?_ (hv := by (simp (disch := first | omega | (simp only [List.length_drop, List.length_take, List.length_map, List.length_append, List.length_cons, List.length_nil, List.length_replicate, List.length_set] <;> omega) | fail) [-List.map_map, -List.map_drop, -List.map_take, VwL_cons, VwL_nil, Vw_bad, Vw_t, Vw_ptr, Vw_msl, Vw_rop, Vw_agg, Vw_tup, Vw_ifc, VwT_refl, VwL_refl_map, Vw_nilmsl, VwT_msl, VwT_agg, VwT_v, VwT_nil, VwTs_cons, VwTs_nil, VwTs_refl, VwTs_app, List.take_of_length_le, srcL, notIn, ObsVw, SrcOk, pOk, Go.Ot.look, resP, resN, ev, evc, mkS, push_cast, List.take_of_length_le, List.flatMap_nil, List.length_nil] <;> (try omega)))
  refine a_opd ?_
  refine a_opd ?_
  refine a_god ?_
  refine a_god ?_
  refine a_god ?_
  refine a_god ?_
  refine a_opd ?_
  refine a_opd ?_
  refine a_callgod [] false (awake_good Γ hE) ?_
  refine a_opd ?_
  refine a_opd ?_
  refine s_nil (r_true (by kernel_rfl) ?_)
  refine q_next ?_
  refine k_ret ?_
  refine ⟨.inr rfl, a_ret [] (by rw [results3]) ?_ ?_ ?_⟩ <;> simp [-List.map_set, -List.map_replicate, -List.reduceReplicate, -List.map_map, -List.map_drop, -List.map_take, num, bol, txt, w8, w16, w32, w64, lst, cls, rowO, boxO, List.take_of_length_le, Wr.cellsL_len, wA, Wr.k_mk, Wr.n_mk, Wr.s_mk, Wr.l_mk, Wr.cellsL, Wr.z_eq, rnT, ftT]
 ·have hgf := grS_f hgr
  refine a_op ?_
  refine a_call [] false ((by have h := great_good Γ s hs1 hs2; rw [hgr] at h; exact h)) ?_
  refine a_op ?_
  refine a_go ?_
  refine a_go ?_
  refine a_go ?_
  refine a_op ?_
  refine s_nil (r_false ?_)
  refine q_next ?_
  refine a_false ?_
  refine k_skip ?_
  refine q_next ?_
  refine k_seq ?_
  refine k_region rfl ?_
  refine a_op ?_
  refine a_call [] true ((by have h := sget_good Γ hE (b) (by omega); rw [hg] at h; exact h)) ?_
  iterate 6 refine a_op ?_
  refine s_nil (r_false ?_)
  refine q_next ?_
  refine k_seq ?_
  refine k_region rfl ?_
  refine a_op ?_
  refine a_call [] true ((by have h := sgetR_good Γ b (by omega); rw [hg] at h; exact h)) ?_
  refine a_op ?_
  refine a_op ?_
  refine s_nil (r_false ?_)
  refine q_next ?_
  refine k_seq ?_
  refine k_region rfl ?_
  refine a_opd ?_
  refine a_calld [] false (sput_good Γ s (by omega) (by omega)) ?_
  refine a_opd ?_
  refine a_calld [] false (sputR_good Γ s (by omega) (by omega)) ?_
  refine a_opd (hs := by (simp (disch := first | omega | (simp only [List.length_drop, List.length_take, List.length_map, List.length_append, List.length_cons, List.length_nil, List.length_replicate, List.length_set] <;> omega) | (simp only [push_cast] <;> omega) | fail) only [push_cast, reduceCtorEq, Nat.reduceAdd, Nat.reduceSub, Nat.reduceMul, Nat.reduceEqDiff, Nat.reduceLT, Nat.reduceLeDiff, Nat.reduceMod, Nat.reduceDiv, Int.reduceLE, Int.reduceLT, Int.reduceEq, Int.reduceToNat, Int.reduceAdd, Int.reduceSub, Int.reduceMul, Int.reduceNeg, beq_self_eq_true] <;> rfl)) ?_
  refine a_opd ?_
  refine a_god ?_
  refine a_god ?_
  refine a_god ?_
  refine a_callgod [] false ((by have h := same_good Γ ⟨[], []⟩ ⟨[], []⟩ (by simp) (by simp) (by simp) (by simp); rw [decide_eq_true rfl] at h; exact h)) ?_ (hv := by (simp (disch := first | omega | (simp only [List.length_drop, List.length_take, List.length_map, List.length_append, List.length_cons, List.length_nil, List.length_replicate, List.length_set] <;> omega) | fail) [-List.map_map, -List.map_drop, -List.map_take, VwL_cons, VwL_nil, Vw_bad, Vw_t, Vw_ptr, Vw_msl, Vw_rop, Vw_agg, Vw_tup, Vw_ifc, VwT_refl, VwL_refl_map, Vw_nilmsl, VwT_msl, VwT_agg, VwT_v, VwT_nil, VwTs_cons, VwTs_nil, VwTs_refl, VwTs_app, List.take_of_length_le, srcL, notIn, ObsVw, SrcOk, pOk, Go.Ot.look, resP, resN, ev, evc, mkS, push_cast, List.take_of_length_le, List.flatMap_nil, List.length_nil] <;> (try omega)))
  refine a_opd ?_
  refine a_opd ?_
  refine a_god ?_
  refine a_god ?_
  refine a_god ?_
  refine a_god ?_
  refine a_opd ?_
  refine a_opd ?_
  refine a_callgod [] false (awake_good Γ hE) ?_
  refine a_opd ?_
  refine a_opd ?_
  refine s_nil (r_true (by kernel_rfl) ?_)
  refine q_next ?_
  refine k_ret ?_
  refine ⟨.inr rfl, a_ret [] (by rw [results3]) ?_ ?_ ?_⟩ <;> simp [-List.map_set, -List.map_replicate, -List.reduceReplicate, -List.map_map, -List.map_drop, -List.map_take, num, bol, txt, w8, w16, w32, w64, lst, cls, rowO, boxO, List.take_of_length_le, Wr.cellsL_len, wA, Wr.k_mk, Wr.n_mk, Wr.s_mk, Wr.l_mk, Wr.cellsL, Wr.z_eq, rnT, ftT]

end Go.Proofs.Tryz
