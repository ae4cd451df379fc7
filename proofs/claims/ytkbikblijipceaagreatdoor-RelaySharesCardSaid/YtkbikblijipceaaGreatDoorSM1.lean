/- Contracts of this program's functions. -/
import Derived.Test.YtkbikblijipceaaGreatDoorSR3
set_option maxHeartbeats 4000000
set_option maxRecDepth 100000
set_option linter.unusedVariables false
set_option linter.unusedSimpArgs false
namespace Go.Proofs.Tryz
open Go Go.Ot
attribute [local irreducible] wpK wpS seqK blockK loopF regK meetK OpSpec Le rdS lpW rdW got mayS mayW ixF
theorem index_good (Γ : Gl) (l : List Wr) (hl : l.length ≤ 65536) (d : Int) (p : Wr → Bool) (hf : ∀ w ∈ l, Go.Ot.Good Γ prog 164 [wA w, .ptr (.p 0) 0] [boxO 3 [.t (num d)]] (.t (bol (p w))) [some (boxO 3 [.t (num d)])] []) : Go.Ot.Good Γ prog 171 [wS l, .fn 164 [.ptr (.p 0) 0]] [boxO 3 [.t (num d)]] (.t (num (ixF p l))) [some (boxO 3 [.t (num d)])] [] := by
 refine a_body F.mix func171 (by rfl) ntmps171 ?_
 refine k_seq ?_
 refine k_region rfl ?_
 refine a_op ?_
 refine s_nil (r_false ?_)
 refine q_next ?_
 refine k_seq ?_
 refine k_seq ?_
 refine k_region rfl ?_
 iterate 3 refine a_op ?_
 refine s_nil (r_false ?_)
 refine q_next ?_
 refine k_block ?_
 refine k_loopF (fun sl L (i : Nat) => ⟨setAll (setBad sl [4, 5, 6, 9, 10, 11, 12, 13, 14, 15, 16, 17, 18]) [(8, .t (num i))], Go.Ot.look (L)⟩) (fun i => i ≤ l.length ∧ (l.take i).any p = false) (fun i => l.length - i) (0) (a_le ?_) ?_ ?_
 ·refine le_same ?_ ?_ ?_ <;> simp [-List.map_set, -List.map_replicate, -List.reduceReplicate, -List.map_map, -List.map_drop, -List.map_take, num, bol, txt, w8, w16, w32, w64, lst, cls, rowO, boxO, List.take_of_length_le, wS]
 ·exact ⟨by omega, by simp⟩
 ·intro i hi
  refine a_st ?_
  refine k_seq ?_
  refine k_region rfl ?_
  refine a_op ?_
  refine s_nil (r_false ?_)
  refine q_next ?_
  refine k_seq ?_
  refine a_if (fun hc0 => ?_) (fun hc0 => ?_)
  ·(try simp only [Bool.and_eq_true, Bool.or_eq_true, Bool.or_eq_false_iff, Bool.not_eq_true', Bool.not_eq_false', dec_t, dec_f, Bool.and_eq_false_imp, beq_iff_eq, beq_eq_false_iff_ne, ne_eq] at hc0)
   refine k_skip ?_
   refine q_next ?_
   refine k_seq ?_
   refine k_block ?_
   refine k_seq ?_
   refine k_region rfl ?_
   refine a_op ?_
   refine a_op ?_
   refine s_nil (r_false ?_)
   refine q_next ?_
   refine k_seq ?_
   refine k_region rfl ?_
   iterate 4 refine a_op ?_
   refine a_op (hc := by (rw [List.length_drop, Wr.cellsL_len]; omega)) ?_
   refine a_callp [.p 0] [] [] false (hf (l.getD i default) (mem_getD (by omega))) ?_
   refine s_nil (r_false ?_)
   refine q_next ?_
   refine a_if (fun hc1 => ?_) (fun hc1 => ?_)
   ·(try simp only [Bool.and_eq_true, Bool.or_eq_true, Bool.or_eq_false_iff, Bool.not_eq_true', Bool.not_eq_false', dec_t, dec_f, Bool.and_eq_false_imp, beq_iff_eq, beq_eq_false_iff_ne, ne_eq] at hc1)
    have hix := ixF_some (p := p) (l := l) (by omega) hi.2 hc1
    refine k_seq ?_
    refine k_region rfl ?_
    refine a_op ?_
    refine a_op ?_
    refine s_nil (r_false ?_)
    refine q_next ?_
    refine k_ret ?_
    refine q_block_ret (q_seq_ret (q_loopF_ret (q_block_ret (q_seq_ret ?_))))
    refine ⟨.inr rfl, a_ret [(.p 0, .p 0)] (by rw [results171]) ?_ ?_ ?_⟩ <;> simp [-List.map_set, -List.map_replicate, -List.reduceReplicate, -List.map_map, -List.map_drop, -List.map_take, num, bol, txt, w8, w16, w32, w64, lst, cls, rowO, boxO, List.take_of_length_le, wS, hix]
   ·(try simp only [Bool.and_eq_true, Bool.or_eq_true, Bool.or_eq_false_iff, Bool.not_eq_true', Bool.not_eq_false', dec_t, dec_f, Bool.and_eq_false_imp, beq_iff_eq, beq_eq_false_iff_ne, ne_eq] at hc1)
    refine k_skip ?_
    refine q_block (q_next ?_)
    refine k_region rfl ?_
    refine a_op ?_
    refine a_op ?_
    refine s_nil (r_false ?_)
    refine q_loopF (i + 1) (a_le ?_) ?_ ?_
    ·refine le_same ?_ ?_ ?_ <;> simp [-List.map_set, -List.map_replicate, -List.reduceReplicate, -List.map_map, -List.map_drop, -List.map_take, num, bol, txt, w8, w16, w32, w64, lst, cls, rowO, boxO, List.take_of_length_le, wS]
    ·exact ⟨by omega, any_next (by omega) hi.2 hc1⟩
    ·(first | omega | (simp only []; omega))
  ·(try simp only [Bool.and_eq_true, Bool.or_eq_true, Bool.or_eq_false_iff, Bool.not_eq_true', Bool.not_eq_false', dec_t, dec_f, Bool.and_eq_false_imp, beq_iff_eq, beq_eq_false_iff_ne, ne_eq] at hc0)
   have hix := ixF_none (p := p) (l := l) (by have := hi.2; rwa [List.take_of_length_le (by omega)] at this)
   refine k_exit ?_
   refine q_seq_exit (q_loopF_exit (q_block_exit (q_next ?_)))
   refine k_seq ?_
   refine k_region rfl ?_
   refine a_op ?_
   refine s_nil (r_false ?_)
   refine q_next ?_
   refine k_ret ?_
   refine ⟨.inr rfl, a_ret [(.p 0, .p 0)] (by rw [results171]) ?_ ?_ ?_⟩ <;> simp [-List.map_set, -List.map_replicate, -List.reduceReplicate, -List.map_map, -List.map_drop, -List.map_take, num, bol, txt, w8, w16, w32, w64, lst, cls, rowO, boxO, List.take_of_length_le, wS, hix]

theorem contains_good (Γ : Gl) (l : List Wr) (hl : l.length ≤ 65536) (d : Int) (p : Wr → Bool) (hf : ∀ w ∈ l, Go.Ot.Good Γ prog 164 [wA w, .ptr (.p 0) 0] [boxO 3 [.t (num d)]] (.t (bol (p w))) [some (boxO 3 [.t (num d)])] []) : Go.Ot.Good Γ prog 163 [wS l, .fn 164 [.ptr (.p 0) 0]] [boxO 3 [.t (num d)]] (.t (bol (l.any p))) [some (boxO 3 [.t (num d)])] [] := by
 refine a_body F.mix func163 (by rfl) ntmps163 ?_
 refine k_seq ?_
 refine k_region rfl ?_
 refine a_op ?_
 refine s_nil (r_false ?_)
 refine q_next ?_
 refine k_seq ?_
 refine k_region rfl ?_
 refine a_op ?_
 refine a_op ?_
 refine a_callp [.p 0] [] [] false (index_good Γ l hl d p hf) ?_
 refine a_op ?_
 refine a_op ?_
 refine s_nil (r_false ?_)
 refine q_next ?_
 refine k_ret ?_
 refine ⟨.inr rfl, a_ret [(.p 0, .p 0)] (by rw [results163]) ?_ ?_ ?_⟩ <;> simp [-List.map_set, -List.map_replicate, -List.reduceReplicate, -List.map_map, -List.map_drop, -List.map_take, num, bol, txt, w8, w16, w32, w64, lst, cls, rowO, boxO, List.take_of_length_le, wS, ixF_any]

theorem mayfn_good (Γ : Gl) (d : Int) (hd : 0 < d ∧ d ≤ 6) (w : Wr) (b : Bool) (h : Go.Ot.Good Γ prog 148 [wA w, .t (num (d - 1))] [] (.t (bol b)) [] []) : Go.Ot.Good Γ prog 164 [wA w, .ptr (.p 0) 0] [boxO 3 [.t (num d)]] (.t (bol (!b))) [some (boxO 3 [.t (num d)])] [] := by
 refine a_body F.mix func164 (by rfl) ntmps164 ?_
 refine k_seq ?_
 refine k_region rfl ?_
 refine a_op ?_
 refine a_op ?_
 refine s_nil (r_false ?_)
 refine q_next ?_
 refine k_seq ?_
 refine k_region rfl ?_
 iterate 3 refine a_op ?_
 refine a_call [] false (h) ?_
 refine a_op ?_
 refine a_op ?_
 refine s_nil (r_false ?_)
 refine q_next ?_
 refine k_ret ?_
 refine ⟨.inr rfl, a_ret [(.p 0, .p 0)] (by rw [results164]) ?_ ?_ ?_⟩ <;> simp [-List.map_set, -List.map_replicate, -List.reduceReplicate, -List.map_map, -List.map_drop, -List.map_take, num, bol, txt, w8, w16, w32, w64, lst, cls, rowO, boxO, List.take_of_length_le]

theorem may_step (Γ : Gl) (d : Nat) (hd6 : d ≤ 6) (deep : Bool) (hdeep : deep = decide (0 < d)) (sub : Wr → Bool) (IH : 0 < d → ∀ w, Go.Ot.Good Γ prog 148 [wA w, .t (num ((d : Int) - 1))] [] (.t (bol (sub w))) [] []) (w : Wr) : Go.Ot.Good Γ prog 148 [wA w, .t (num d)] [] (.t (bol (mayS deep sub w))) [] [] := by
 refine a_body F.mix func148 (by rfl) ntmps148 ?_
 refine k_seq ?_
 refine k_region rfl ?_
 iterate 3 refine a_op ?_
 refine s_nil (r_false ?_)
 refine q_next ?_
 refine k_seq ?_
 refine k_seq ?_
 refine k_region rfl ?_
 have h4 : w.k = 1 ∨ w.k = 2 ∨ w.k = 3 ∨ (w.k ≠ 1 ∧ w.k ≠ 2 ∧ w.k ≠ 3) := by omega
 obtain ⟨k, n, s, l⟩ := w
 simp only [Wr.k_mk] at h4
 rcases h4 with rfl | rfl | rfl | h4
 ·skip
  refine a_op ?_
  refine a_op ?_
  refine s_nil (r_false ?_)
  refine q_next ?_
  refine k_block ?_
  refine k_seq ?_
  refine k_region rfl ?_
  refine a_op ?_
  refine a_op ?_
  refine s_nil (r_false ?_)
  refine q_next ?_
  refine a_true ?_
  refine k_seq ?_
  refine k_region rfl ?_
  rcases (show s ≠ [] ∨ s = [] from by by_cases h : s = []; exact .inr h; exact .inl h) with h1 | rfl
  ·try have hb := beq_ne h1
   refine a_op ?_
   refine a_op ?_
   refine a_op (hs := by (simp only [push_cast, hb] <;> rfl)) ?_
   refine a_op ?_
   refine a_no ?_
   refine a_no ?_
   refine a_no ?_
   refine a_no ?_
   refine a_op ?_
   refine a_op ?_
   refine s_nil (r_false ?_)
   refine q_next ?_
   refine k_ret ?_
   refine q_block_ret (q_seq_ret ?_)
   refine ⟨.inr rfl, a_ret [] (by rw [results148]) ?_ ?_ ?_⟩ <;> simp [-List.map_set, -List.map_replicate, -List.reduceReplicate, -List.map_map, -List.map_drop, -List.map_take, num, bol, txt, w8, w16, w32, w64, lst, cls, rowO, boxO, List.take_of_length_le, mayS_1, hb]
  ·try have hb := beq_ne h1
   iterate 4 refine a_op ?_
   refine a_go ?_
   refine a_go ?_
   refine a_go ?_
   refine a_go ?_
   refine a_op ?_
   refine a_op ?_
   refine s_nil (r_false ?_)
   refine q_next ?_
   refine k_ret ?_
   refine q_block_ret (q_seq_ret ?_)
   refine ⟨.inr rfl, a_ret [] (by rw [results148]) ?_ ?_ ?_⟩ <;> simp [-List.map_set, -List.map_replicate, -List.reduceReplicate, -List.map_map, -List.map_drop, -List.map_take, num, bol, txt, w8, w16, w32, w64, lst, cls, rowO, boxO, List.take_of_length_le, mayS_1]
 ·skip
  refine a_op ?_
  refine a_op ?_
  refine s_nil (r_false ?_)
  refine q_next ?_
  refine k_block ?_
  refine k_seq ?_
  refine k_region rfl ?_
  refine a_op ?_
  refine a_op ?_
  refine s_nil (r_false ?_)
  refine q_next ?_
  refine a_false ?_
  refine k_seq ?_
  refine k_region rfl ?_
  refine a_op ?_
  refine a_op ?_
  refine s_nil (r_false ?_)
  refine q_next ?_
  refine a_true ?_
  refine k_seq ?_
  refine k_region rfl ?_
  have h5 : n ≠ 0 ∨ (n = 0 ∧ l.length ≠ 0) ∨ (n = 0 ∧ l.length = 0) := by omega
  rcases h5 with h1 | ⟨rfl, h1⟩ | ⟨rfl, h1⟩
  ·skip
   iterate 4 refine a_op ?_
   refine a_no ?_
   refine a_no ?_
   refine a_no ?_
   refine a_no ?_
   refine a_op ?_
   refine a_op ?_
   refine a_no ?_
   refine a_no ?_
   refine a_no ?_
   refine a_no ?_
   refine a_op ?_
   refine a_op ?_
   refine s_nil (r_false ?_)
   refine q_next ?_
   refine k_ret ?_
   refine q_block_ret (q_seq_ret ?_)
   refine ⟨.inr rfl, a_ret [] (by rw [results148]) ?_ ?_ ?_⟩ <;> simp [-List.map_set, -List.map_replicate, -List.reduceReplicate, -List.map_map, -List.map_drop, -List.map_take, num, bol, txt, w8, w16, w32, w64, lst, cls, rowO, boxO, List.take_of_length_le, mayS_2, h1]
  ·skip
   iterate 4 refine a_op ?_
   refine a_go ?_
   refine a_go ?_
   refine a_go ?_
   refine a_go ?_
   refine a_op ?_
   refine a_op ?_
   refine a_no ?_
   refine a_no ?_
   refine a_no ?_
   refine a_no ?_
   refine a_op ?_
   refine a_op ?_
   refine s_nil (r_false ?_)
   refine q_next ?_
   refine k_ret ?_
   refine q_block_ret (q_seq_ret ?_)
   refine ⟨.inr rfl, a_ret [] (by rw [results148]) ?_ ?_ ?_⟩ <;> simp [-List.map_set, -List.map_replicate, -List.reduceReplicate, -List.map_map, -List.map_drop, -List.map_take, num, bol, txt, w8, w16, w32, w64, lst, cls, rowO, boxO, List.take_of_length_le, mayS_2, h1]
  ·skip
   iterate 4 refine a_op ?_
   refine a_go ?_
   refine a_go ?_
   refine a_go ?_
   refine a_go ?_
   refine a_op ?_
   refine a_op ?_
   refine a_go ?_
   refine a_go ?_
   refine a_go ?_
   refine a_go ?_
   refine a_op ?_
   refine a_op ?_
   refine s_nil (r_false ?_)
   refine q_next ?_
   refine k_ret ?_
   refine q_block_ret (q_seq_ret ?_)
   refine ⟨.inr rfl, a_ret [] (by rw [results148]) ?_ ?_ ?_⟩ <;> simp [-List.map_set, -List.map_replicate, -List.reduceReplicate, -List.map_map, -List.map_drop, -List.map_take, num, bol, txt, w8, w16, w32, w64, lst, cls, rowO, boxO, List.take_of_length_le, mayS_2, h1, show ((s.length : Int) ≤ 1048576) = (s.length ≤ 1048576) from propext (by omega)]
 ·skip
  refine a_op ?_
  refine a_op ?_
  refine s_nil (r_false ?_)
  refine q_next ?_
  refine k_block ?_
  refine k_seq ?_
  refine k_region rfl ?_
  refine a_op ?_
  refine a_op ?_
  refine s_nil (r_false ?_)
  refine q_next ?_
  refine a_false ?_
  refine k_seq ?_
  refine k_region rfl ?_
  refine a_op ?_
  refine a_op ?_
  refine s_nil (r_false ?_)
  refine q_next ?_
  refine a_false ?_
  refine k_seq ?_
  refine k_region rfl ?_
  refine a_op ?_
  refine a_op ?_
  refine s_nil (r_false ?_)
  refine q_next ?_
  refine a_true ?_
  refine k_seq ?_
  refine k_region rfl ?_
  have h5 : d = 0 ∨ (0 < d ∧ n ≠ 0) ∨ (0 < d ∧ n = 0 ∧ s ≠ []) ∨ (0 < d ∧ n = 0 ∧ s = [] ∧ 65536 < l.length) ∨ (0 < d ∧ n = 0 ∧ s = [] ∧ l.length ≤ 65536) := by
   rcases Nat.eq_zero_or_pos d with h | h
   ·exact .inl h
   ·by_cases h1 : n = 0
    ·by_cases hs : s = []
     ·rcases Nat.lt_or_ge 65536 l.length with h2 | h2
      ·exact .inr (.inr (.inr (.inl ⟨h, h1, hs, h2⟩)))
      ·exact .inr (.inr (.inr (.inr ⟨h, h1, hs, h2⟩)))
     ·exact .inr (.inr (.inl ⟨h, h1, hs⟩))
    ·exact .inr (.inl ⟨h, h1⟩)
  rcases h5 with h0 | ⟨h0, h1⟩ | ⟨h0, rfl, h1⟩ | ⟨h0, rfl, rfl, h1⟩ | ⟨h0, rfl, rfl, h1⟩
  ·try have hb := beq_ne h1
   iterate 3 refine a_op ?_
   refine a_no ?_
   refine a_no ?_
   refine a_no ?_
   refine a_op ?_
   refine a_op ?_
   refine a_no ?_
   refine a_no ?_
   refine a_no ?_
   refine a_op ?_
   refine a_op ?_
   refine a_no ?_
   refine a_no ?_
   refine a_no ?_
   refine a_no ?_
   refine a_op ?_
   refine a_op ?_
   refine a_no ?_
   refine a_no ?_
   refine a_no ?_
   refine a_no ?_
   refine a_no ?_
   refine a_op ?_
   refine a_op ?_
   refine s_nil (r_false ?_)
   refine q_next ?_
   refine k_ret ?_
   refine q_block_ret (q_seq_ret ?_)
   refine ⟨.inr rfl, a_ret [] (by rw [results148]) ?_ ?_ ?_⟩ <;> simp [-List.map_set, -List.map_replicate, -List.reduceReplicate, -List.map_map, -List.map_drop, -List.map_take, num, bol, txt, w8, w16, w32, w64, lst, cls, rowO, boxO, List.take_of_length_le, mayS_3, hdeep, h0]
  ·try have hb := beq_ne h1
   iterate 3 refine a_op ?_
   refine a_go ?_
   refine a_go ?_
   refine a_go ?_
   refine a_op ?_
   refine a_op ?_
   refine a_no ?_
   refine a_no ?_
   refine a_no ?_
   refine a_op ?_
   refine a_op ?_
   refine a_no ?_
   refine a_no ?_
   refine a_no ?_
   refine a_no ?_
   refine a_op ?_
   refine a_op ?_
   refine a_no ?_
   refine a_no ?_
   refine a_no ?_
   refine a_no ?_
   refine a_no ?_
   refine a_op ?_
   refine a_op ?_
   refine s_nil (r_false ?_)
   refine q_next ?_
   refine k_ret ?_
   refine q_block_ret (q_seq_ret ?_)
   refine ⟨.inr rfl, a_ret [] (by rw [results148]) ?_ ?_ ?_⟩ <;> simp [-List.map_set, -List.map_replicate, -List.reduceReplicate, -List.map_map, -List.map_drop, -List.map_take, num, bol, txt, w8, w16, w32, w64, lst, cls, rowO, boxO, List.take_of_length_le, mayS_3, h1]
  ·try have hb := beq_ne h1
   iterate 3 refine a_op ?_
   refine a_go ?_
   refine a_go ?_
   refine a_go ?_
   refine a_op ?_
   refine a_op ?_
   refine a_go ?_
   refine a_go ?_
   refine a_go (hs := by (simp only [push_cast, hb] <;> rfl)) ?_
   refine a_op ?_
   refine a_op ?_
   refine a_no ?_
   refine a_no ?_
   refine a_no ?_
   refine a_no ?_
   refine a_op ?_
   refine a_op ?_
   refine a_no ?_
   refine a_no ?_
   refine a_no ?_
   refine a_no ?_
   refine a_no ?_
   refine a_op ?_
   refine a_op ?_
   refine s_nil (r_false ?_)
   refine q_next ?_
   refine k_ret ?_
   refine q_block_ret (q_seq_ret ?_)
   refine ⟨.inr rfl, a_ret [] (by rw [results148]) ?_ ?_ ?_⟩ <;> simp [-List.map_set, -List.map_replicate, -List.reduceReplicate, -List.map_map, -List.map_drop, -List.map_take, num, bol, txt, w8, w16, w32, w64, lst, cls, rowO, boxO, List.take_of_length_le, mayS_3, hb]
  ·try have hb := beq_ne h1
   iterate 3 refine a_op ?_
   refine a_go ?_
   refine a_go ?_
   refine a_go ?_
   refine a_op ?_
   refine a_op ?_
   refine a_go ?_
   refine a_go ?_
   refine a_go ?_
   refine a_op ?_
   refine a_op ?_
   refine a_go ?_
   refine a_go ?_
   refine a_go ?_
   refine a_go ?_
   refine a_op ?_
   refine a_op ?_
   refine a_no ?_
   refine a_no ?_
   refine a_no ?_
   refine a_no ?_
   refine a_no ?_
   refine a_op ?_
   refine a_op ?_
   refine s_nil (r_false ?_)
   refine q_next ?_
   refine k_ret ?_
   refine q_block_ret (q_seq_ret ?_)
   refine ⟨.inr rfl, a_ret [] (by rw [results148]) ?_ ?_ ?_⟩ <;> simp [-List.map_set, -List.map_replicate, -List.reduceReplicate, -List.map_map, -List.map_drop, -List.map_take, num, bol, txt, w8, w16, w32, w64, lst, cls, rowO, boxO, List.take_of_length_le, mayS_3, show ¬ l.length ≤ 65536 from by omega]
  ·try have hb := beq_ne h1
   iterate 3 refine a_op ?_
   refine a_go ?_
   refine a_go ?_
   refine a_go ?_
   refine a_op ?_
   refine a_op ?_
   refine a_go ?_
   refine a_go ?_
   refine a_go ?_
   refine a_op ?_
   refine a_op ?_
   refine a_go ?_
   refine a_go ?_
   refine a_go ?_
   refine a_go ?_
   refine a_op ?_
   refine a_op ?_
   refine a_go ?_
   refine a_go ?_
   refine a_go ?_
   refine a_callpgo [.r 0 1 0] [] [] false (contains_good Γ l (by omega) d (fun x => !sub x) (fun w _ => mayfn_good Γ d (by omega) w (sub w) (IH h0 w))) ?_
   refine a_go ?_
   refine a_op ?_
   refine a_op ?_
   refine s_nil (r_false ?_)
   refine q_next ?_
   refine k_ret ?_
   refine q_block_ret (q_seq_ret ?_)
   refine ⟨.inr rfl, a_ret [] (by rw [results148]) ?_ ?_ ?_⟩ <;> simp [-List.map_set, -List.map_replicate, -List.reduceReplicate, -List.map_map, -List.map_drop, -List.map_take, num, bol, txt, w8, w16, w32, w64, lst, cls, rowO, boxO, List.take_of_length_le, mayS_3, hdeep, h0, h1, all_any]
 ·skip
  refine a_op ?_
  refine a_op ?_
  refine s_nil (r_false ?_)
  refine q_next ?_
  refine k_block ?_
  refine k_seq ?_
  refine k_region rfl ?_
  refine a_op ?_
  refine a_op ?_
  refine s_nil (r_false ?_)
  refine q_next ?_
  refine a_false ?_
  refine k_seq ?_
  refine k_region rfl ?_
  refine a_op ?_
  refine a_op ?_
  refine s_nil (r_false ?_)
  refine q_next ?_
  refine a_false ?_
  refine k_seq ?_
  refine k_region rfl ?_
  refine a_op ?_
  refine a_op ?_
  refine s_nil (r_false ?_)
  refine q_next ?_
  refine a_false ?_
  refine k_skip ?_
  refine q_block (q_next ?_)
  refine k_seq ?_
  refine k_region rfl ?_
  refine a_op ?_
  refine s_nil (r_false ?_)
  refine q_next ?_
  refine k_ret ?_
  refine ⟨.inr rfl, a_ret [] (by rw [results148]) ?_ ?_ ?_⟩ <;> simp [-List.map_set, -List.map_replicate, -List.reduceReplicate, -List.map_map, -List.map_drop, -List.map_take, num, bol, txt, w8, w16, w32, w64, lst, cls, rowO, boxO, List.take_of_length_le, mayS_o h4]

end Go.Proofs.Tryz
