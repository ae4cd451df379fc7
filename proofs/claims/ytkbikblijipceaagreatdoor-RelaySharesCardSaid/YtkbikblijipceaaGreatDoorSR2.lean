/- Contracts of this program's functions. -/
import Derived.Test.YtkbikblijipceaaGreatDoorSR1
set_option maxHeartbeats 4000000
set_option maxRecDepth 100000
set_option linter.unusedVariables false
set_option linter.unusedSimpArgs false
namespace Go.Proofs.Tryz
open Go Go.Ot
attribute [local irreducible] wpK wpS seqK blockK loopF regK meetK OpSpec Le rdS lpW rdW
theorem wire_step (Γ : Gl) (d : Nat) (hd6 : d ≤ 6) (deep : Bool) (hdeep : deep = true ↔ 0 < d) (sub : List UInt8 → Rd) (hsub : ∀ r, (sub r).2.2.length ≤ r.length) (IH : deep = true → ∀ r, r.length ≤ 1000000 → Go.Ot.Good Γ prog 114 [.ptr (.p 0) 0, .t (num ((d : Int) - 1))] [boxO 167 [.t (txt (r))]] (rdD (sub r)) [some (boxO 167 [.t (txt ((sub r).2.2))])] []) (r : List UInt8) (hr : r.length ≤ 1000000) : Go.Ot.Good Γ prog 114 [.ptr (.p 0) 0, .t (num d)] [boxO 167 [.t (txt (r))]] ((rdD (rdS deep sub r))) [some (boxO 167 [.t (txt ((rdS deep sub r).2.2))])] [] := by
 refine a_body F.mix func114 (by rfl) ntmps114 ?_
 refine k_seq ?_
 refine k_region rfl ?_
 refine a_op ?_
 refine a_op ?_
 refine s_nil (r_false ?_)
 refine q_next ?_
 refine k_seq ?_
 refine k_region rfl ?_
 have h5 : r = [] ∨ ∃ k q, r = k :: q ∧ (k = 1 ∨ k = 2 ∨ k = 3 ∨ (k.toNat ≠ 1 ∧ k.toNat ≠ 2 ∧ k.toNat ≠ 3)) := by
  rcases r with _ | ⟨k, q⟩
  ·exact .inl rfl
  ·refine .inr ⟨k, q, rfl, ?_⟩
   by_cases h1 : k = 1
   ·exact .inl h1
   ·by_cases h2 : k = 2
    ·exact .inr (.inl h2)
    ·by_cases h3 : k = 3
     ·exact .inr (.inr (.inl h3))
     ·exact .inr (.inr (.inr ⟨fun e => h1 (UInt8.toNat_inj.1 e), fun e => h2 (UInt8.toNat_inj.1 e), fun e => h3 (UInt8.toNat_inj.1 e)⟩))
 rcases h5 with rfl | ⟨k, q, rfl, rfl | rfl | rfl | hk⟩
 ·skip
  refine a_op ?_
  refine a_callp [.p 0] [] [] false (number_cut Γ [] 1 (by simp) (by simp)) ?_
  iterate 5 refine a_op ?_
  refine s_nil (r_false ?_)
  refine q_next ?_
  refine k_seq ?_
  refine k_seq ?_
  refine k_region rfl ?_
  refine a_op ?_
  refine a_isnil true ?_
  refine s_nil (r_false ?_)
  refine q_next ?_
  refine a_true ?_
  refine k_seq ?_
  refine k_region rfl ?_
  iterate 4 refine a_op ?_
  refine s_nil (r_false ?_)
  refine q_next ?_
  refine k_ret ?_
  refine q_seq_ret ?_
  refine ⟨.inr rfl, a_ret [(.p 0, .p 0)] (by rw [results114]) ?_ ?_ ?_⟩ <;> simp [-List.map_set, -List.map_replicate, -List.reduceReplicate, -List.map_map, -List.map_drop, -List.map_take, num, bol, txt, w8, w16, w32, w64, lst, cls, rowO, boxO, List.take_of_length_le, rdD, rdS_Z, Wr.cellsL_len, wA, Wr.k, Wr.n, Wr.s, Wr.l, Wr.cellsL, erT, chT, chV, wvT, Wr.z, CUT, KS, LONGER, List.take_of_length_le]
 ·skip
  refine a_op ?_
  refine a_callp [.p 0] [] [] false ((by have h := number_ok Γ (1 :: q) 1 (by simp) (by omega) hr; rw [bn_one] at h; exact h)) ?_
  iterate 5 refine a_op ?_
  refine s_nil (r_false ?_)
  refine q_next ?_
  refine k_seq ?_
  refine k_seq ?_
  refine k_region rfl ?_
  refine a_op ?_
  refine a_nilnil true ?_
  refine s_nil (r_false ?_)
  refine q_next ?_
  refine a_false ?_
  refine k_skip ?_
  refine q_next ?_
  refine k_seq ?_
  refine k_region rfl ?_
  have hq : q.length ≤ 1000000 := by simp at hr; omega
  skip
  iterate 5 refine a_op ?_
  refine s_nil (r_false ?_)
  refine q_next ?_
  refine k_seq ?_
  refine k_region rfl ?_
  refine a_op ?_
  refine s_nil (r_false ?_)
  refine q_next ?_
  refine k_seq ?_
  refine k_seq ?_
  refine k_region rfl ?_
  iterate 3 refine a_op ?_
  refine s_nil (r_false ?_)
  refine q_next ?_
  refine a_true ?_
  refine k_region rfl ?_
  refine a_op ?_
  refine s_nil (r_false ?_)
  refine q_next ?_
  refine k_seq ?_
  refine k_region rfl ?_
  rcases Nat.lt_or_ge q.length 8 with hl | hl
  ·skip
   refine a_op ?_
   refine a_op ?_
   refine a_callp [.p 0] [] [] false (number_cut Γ q 8 hl hq) ?_
   iterate 5 refine a_op ?_
   refine s_nil (r_false ?_)
   refine q_next ?_
   refine k_seq ?_
   refine k_block ?_
   refine k_seq ?_
   refine k_region rfl ?_
   refine a_op ?_
   refine a_isnil true ?_
   refine a_op ?_
   refine s_nil (r_false ?_)
   refine q_next ?_
   refine a_true ?_
   refine k_skip ?_
   refine q_block (q_next ?_)
   refine k_seq ?_
   refine k_region rfl ?_
   iterate 4 refine a_op ?_
   refine s_nil (r_false ?_)
   refine q_next ?_
   refine k_ret ?_
   refine ⟨.inr rfl, a_ret [(.p 0, .p 0)] (by rw [results114]) ?_ ?_ ?_⟩ <;> simp [-List.map_set, -List.map_replicate, -List.reduceReplicate, -List.map_map, -List.map_drop, -List.map_take, num, bol, txt, w8, w16, w32, w64, lst, cls, rowO, boxO, List.take_of_length_le, rdD, rdS_1c hl, Wr.cellsL_len, wA, Wr.k, Wr.n, Wr.s, Wr.l, Wr.cellsL, erT, chT, chV, wvT, Wr.z, CUT, KS, LONGER, List.take_of_length_le]
  ·skip
   refine a_op ?_
   refine a_op ?_
   refine a_callp [.p 0] [] [] false (number_ok Γ q 8 hl (by omega) hq) ?_
   iterate 5 refine a_op ?_
   refine s_nil (r_false ?_)
   refine q_next ?_
   refine k_seq ?_
   refine k_block ?_
   refine k_seq ?_
   refine k_region rfl ?_
   refine a_op ?_
   refine a_nilnil true ?_
   refine a_op ?_
   refine s_nil (r_false ?_)
   refine q_next ?_
   refine a_false ?_
   refine k_seq ?_
   refine k_region rfl ?_
   iterate 4 refine a_op ?_
   refine s_nil (r_false ?_)
   refine q_next ?_
   refine a_true ?_
   refine k_region rfl ?_
   refine a_op ?_
   refine a_op (hs := by (simp only [push_cast, wrap_i64 (bn_le q 8 (by omega))] <;> rfl)) ?_
   refine a_op ?_
   refine a_op ?_
   refine s_nil (r_false ?_)
   refine q_block (q_next ?_)
   refine k_seq ?_
   refine k_region rfl ?_
   iterate 4 refine a_op ?_
   refine s_nil (r_false ?_)
   refine q_next ?_
   refine k_ret ?_
   refine ⟨.inr rfl, a_ret [(.p 0, .p 0)] (by rw [results114]) ?_ ?_ ?_⟩ <;> simp [-List.map_set, -List.map_replicate, -List.reduceReplicate, -List.map_map, -List.map_drop, -List.map_take, num, bol, txt, w8, w16, w32, w64, lst, cls, rowO, boxO, List.take_of_length_le, rdD, rdS_1 hl, Wr.cellsL_len, wA, Wr.k, Wr.n, Wr.s, Wr.l, Wr.cellsL, erT, chT, chV, wvT, Wr.z, CUT, KS, LONGER, List.take_of_length_le]
 ·skip
  refine a_op ?_
  refine a_callp [.p 0] [] [] false ((by have h := number_ok Γ (2 :: q) 1 (by simp) (by omega) hr; rw [bn_one] at h; exact h)) ?_
  iterate 5 refine a_op ?_
  refine s_nil (r_false ?_)
  refine q_next ?_
  refine k_seq ?_
  refine k_seq ?_
  refine k_region rfl ?_
  refine a_op ?_
  refine a_nilnil true ?_
  refine s_nil (r_false ?_)
  refine q_next ?_
  refine a_false ?_
  refine k_skip ?_
  refine q_next ?_
  refine k_seq ?_
  refine k_region rfl ?_
  have hq : q.length ≤ 1000000 := by simp at hr; omega
  skip
  iterate 5 refine a_op ?_
  refine s_nil (r_false ?_)
  refine q_next ?_
  refine k_seq ?_
  refine k_region rfl ?_
  refine a_op ?_
  refine s_nil (r_false ?_)
  refine q_next ?_
  refine k_seq ?_
  refine k_seq ?_
  refine k_region rfl ?_
  iterate 3 refine a_op ?_
  refine s_nil (r_false ?_)
  refine q_next ?_
  refine a_false ?_
  refine k_skip ?_
  refine q_next ?_
  refine k_seq ?_
  refine k_region rfl ?_
  rcases Nat.lt_or_ge q.length 4 with hl | hl
  ·skip
   refine a_op ?_
   refine a_op ?_
   refine a_callp [.p 0] [] [] false (number_cut Γ q 4 hl hq) ?_
   iterate 5 refine a_op ?_
   refine s_nil (r_false ?_)
   refine q_next ?_
   refine k_seq ?_
   refine k_block ?_
   refine k_seq ?_
   refine k_region rfl ?_
   refine a_op ?_
   refine a_isnil true ?_
   refine a_op ?_
   refine s_nil (r_false ?_)
   refine q_next ?_
   refine a_true ?_
   refine k_skip ?_
   refine q_block (q_next ?_)
   refine k_seq ?_
   refine k_region rfl ?_
   iterate 4 refine a_op ?_
   refine s_nil (r_false ?_)
   refine q_next ?_
   refine k_ret ?_
   refine ⟨.inr rfl, a_ret [(.p 0, .p 0)] (by rw [results114]) ?_ ?_ ?_⟩ <;> simp [-List.map_set, -List.map_replicate, -List.reduceReplicate, -List.map_map, -List.map_drop, -List.map_take, num, bol, txt, w8, w16, w32, w64, lst, cls, rowO, boxO, List.take_of_length_le, rdD, rdS_c (k := 2) (by simp) hl, Wr.cellsL_len, wA, Wr.k, Wr.n, Wr.s, Wr.l, Wr.cellsL, erT, chT, chV, wvT, Wr.z, CUT, KS, LONGER, List.take_of_length_le]
  ·skip
   refine a_op ?_
   refine a_op ?_
   refine a_callp [.p 0] [] [] false (number_ok Γ q 4 hl (by omega) hq) ?_
   iterate 5 refine a_op ?_
   refine s_nil (r_false ?_)
   refine q_next ?_
   refine k_seq ?_
   refine k_block ?_
   refine k_seq ?_
   refine k_region rfl ?_
   refine a_op ?_
   refine a_nilnil true ?_
   refine a_op ?_
   refine s_nil (r_false ?_)
   refine q_next ?_
   refine a_false ?_
   refine k_seq ?_
   refine k_region rfl ?_
   iterate 4 refine a_op ?_
   refine s_nil (r_false ?_)
   refine q_next ?_
   refine a_false ?_
   refine k_seq ?_
   refine k_region rfl ?_
   have hb4 := bn4 q
   rcases Nat.lt_or_ge 1048576 (bn (q.take 4)) with hb | hb
   ·skip
    iterate 4 refine a_op ?_
    refine a_go ?_
    refine a_go ?_
    refine a_op ?_
    refine a_op ?_
    refine s_nil (r_false ?_)
    refine q_next ?_
    refine a_false ?_
    refine k_seq ?_
    refine k_region rfl ?_
    skip
    iterate 4 refine a_op ?_
    refine a_no ?_
    refine a_no ?_
    refine a_op ?_
    refine a_op ?_
    refine a_no ?_
    refine a_no ?_
    refine a_op ?_
    refine a_op ?_
    refine s_nil (r_false ?_)
    refine q_next ?_
    refine a_false ?_
    refine k_region rfl ?_
    refine a_op ?_
    refine a_op ?_
    refine s_nil (r_false ?_)
    refine q_block (q_next ?_)
    refine k_seq ?_
    refine k_region rfl ?_
    iterate 4 refine a_op ?_
    refine s_nil (r_false ?_)
    refine q_next ?_
    refine k_ret ?_
    refine ⟨.inr rfl, a_ret [(.p 0, .p 0)] (by rw [results114]) ?_ ?_ ?_⟩ <;> simp [-List.map_set, -List.map_replicate, -List.reduceReplicate, -List.map_map, -List.map_drop, -List.map_take, num, bol, txt, w8, w16, w32, w64, lst, cls, rowO, boxO, List.take_of_length_le, rdD, rdS_2g hl hb, Wr.cellsL_len, wA, Wr.k, Wr.n, Wr.s, Wr.l, Wr.cellsL, erT, chT, chV, wvT, Wr.z, CUT, KS, LONGER, List.take_of_length_le]
   ·skip
    iterate 4 refine a_op ?_
    refine a_go ?_
    refine a_go ?_
    refine a_op ?_
    refine a_op ?_
    refine s_nil (r_false ?_)
    refine q_next ?_
    refine a_true ?_
    refine k_region rfl ?_
    rcases Nat.lt_or_ge (q.drop 4).length (bn (q.take 4)) with ht | ht
    ·skip
     iterate 3 refine a_op ?_
     refine a_callp [.p 0] [] [] false (take_cut Γ (q.drop 4) (bn (q.take 4)) ht (by simp; omega)) ?_
     iterate 6 refine a_op ?_
     refine s_nil (r_false ?_)
     refine q_block (q_next ?_)
     refine k_seq ?_
     refine k_region rfl ?_
     iterate 4 refine a_op ?_
     refine s_nil (r_false ?_)
     refine q_next ?_
     refine k_ret ?_
     refine ⟨.inr rfl, a_ret [(.p 0, .p 0)] (by rw [results114]) ?_ ?_ ?_⟩ <;> simp [-List.map_set, -List.map_replicate, -List.reduceReplicate, -List.map_map, -List.map_drop, -List.map_take, num, bol, txt, w8, w16, w32, w64, lst, cls, rowO, boxO, List.take_of_length_le, rdD, rdS_2u hl hb ht, Wr.cellsL_len, wA, Wr.k, Wr.n, Wr.s, Wr.l, Wr.cellsL, erT, chT, chV, wvT, Wr.z, CUT, KS, LONGER, List.take_of_length_le]
    ·skip
     iterate 3 refine a_op ?_
     refine a_callp [.p 0] [] [] false (take_ok Γ (q.drop 4) (bn (q.take 4)) ht (by simp; omega)) ?_
     iterate 6 refine a_op ?_
     refine s_nil (r_false ?_)
     refine q_block (q_next ?_)
     refine k_seq ?_
     refine k_region rfl ?_
     iterate 4 refine a_op ?_
     refine s_nil (r_false ?_)
     refine q_next ?_
     refine k_ret ?_
     refine ⟨.inr rfl, a_ret [(.p 0, .p 0)] (by rw [results114]) ?_ ?_ ?_⟩ <;> simp [-List.map_set, -List.map_replicate, -List.reduceReplicate, -List.map_map, -List.map_drop, -List.map_take, num, bol, txt, w8, w16, w32, w64, lst, cls, rowO, boxO, List.take_of_length_le, rdD, rdS_2t hl hb ht, Wr.cellsL_len, wA, Wr.k, Wr.n, Wr.s, Wr.l, Wr.cellsL, erT, chT, chV, wvT, Wr.z, CUT, KS, LONGER, List.take_of_length_le]
 ·skip
  refine a_op ?_
  refine a_callp [.p 0] [] [] false ((by have h := number_ok Γ (3 :: q) 1 (by simp) (by omega) hr; rw [bn_one] at h; exact h)) ?_
  iterate 5 refine a_op ?_
  refine s_nil (r_false ?_)
  refine q_next ?_
  refine k_seq ?_
  refine k_seq ?_
  refine k_region rfl ?_
  refine a_op ?_
  refine a_nilnil true ?_
  refine s_nil (r_false ?_)
  refine q_next ?_
  refine a_false ?_
  refine k_skip ?_
  refine q_next ?_
  refine k_seq ?_
  refine k_region rfl ?_
  have hq : q.length ≤ 1000000 := by simp at hr; omega
  skip
  iterate 5 refine a_op ?_
  refine s_nil (r_false ?_)
  refine q_next ?_
  refine k_seq ?_
  refine k_region rfl ?_
  refine a_op ?_
  refine s_nil (r_false ?_)
  refine q_next ?_
  refine k_seq ?_
  refine k_seq ?_
  refine k_region rfl ?_
  iterate 3 refine a_op ?_
  refine s_nil (r_false ?_)
  refine q_next ?_
  refine a_false ?_
  refine k_skip ?_
  refine q_next ?_
  refine k_seq ?_
  refine k_region rfl ?_
  rcases Nat.lt_or_ge q.length 4 with hl | hl
  ·skip
   refine a_op ?_
   refine a_op ?_
   refine a_callp [.p 0] [] [] false (number_cut Γ q 4 hl hq) ?_
   iterate 5 refine a_op ?_
   refine s_nil (r_false ?_)
   refine q_next ?_
   refine k_seq ?_
   refine k_block ?_
   refine k_seq ?_
   refine k_region rfl ?_
   refine a_op ?_
   refine a_isnil true ?_
   refine a_op ?_
   refine s_nil (r_false ?_)
   refine q_next ?_
   refine a_true ?_
   refine k_skip ?_
   refine q_block (q_next ?_)
   refine k_seq ?_
   refine k_region rfl ?_
   iterate 4 refine a_op ?_
   refine s_nil (r_false ?_)
   refine q_next ?_
   refine k_ret ?_
   refine ⟨.inr rfl, a_ret [(.p 0, .p 0)] (by rw [results114]) ?_ ?_ ?_⟩ <;> simp [-List.map_set, -List.map_replicate, -List.reduceReplicate, -List.map_map, -List.map_drop, -List.map_take, num, bol, txt, w8, w16, w32, w64, lst, cls, rowO, boxO, List.take_of_length_le, rdD, rdS_c (k := 3) (by simp) hl, Wr.cellsL_len, wA, Wr.k, Wr.n, Wr.s, Wr.l, Wr.cellsL, erT, chT, chV, wvT, Wr.z, CUT, KS, LONGER, List.take_of_length_le]
  ·skip
   refine a_op ?_
   refine a_op ?_
   refine a_callp [.p 0] [] [] false (number_ok Γ q 4 hl (by omega) hq) ?_
   iterate 5 refine a_op ?_
   refine s_nil (r_false ?_)
   refine q_next ?_
   refine k_seq ?_
   refine k_block ?_
   refine k_seq ?_
   refine k_region rfl ?_
   refine a_op ?_
   refine a_nilnil true ?_
   refine a_op ?_
   refine s_nil (r_false ?_)
   refine q_next ?_
   refine a_false ?_
   refine k_seq ?_
   refine k_region rfl ?_
   iterate 4 refine a_op ?_
   refine s_nil (r_false ?_)
   refine q_next ?_
   refine a_false ?_
   refine k_seq ?_
   refine k_region rfl ?_
   have hb4 := bn4 q
   iterate 4 refine a_op ?_
   refine a_no ?_
   refine a_no ?_
   refine a_op ?_
   refine a_op ?_
   refine s_nil (r_false ?_)
   refine q_next ?_
   refine a_false ?_
   refine k_seq ?_
   refine k_region rfl ?_
   have h3 : (65536 < bn (q.take 4) ∧ ¬ (bn (q.take 4) ≤ 65536 ∧ deep = true)) ∨ ((bn (q.take 4) ≤ 65536 ∧ d = 0) ∧ ¬ (bn (q.take 4) ≤ 65536 ∧ deep = true)) ∨ ((bn (q.take 4) ≤ 65536 ∧ 0 < d) ∧ deep = true) := by
    rcases Nat.lt_or_ge 65536 (bn (q.take 4)) with h1 | h1
    ·exact .inl ⟨h1, fun h => by omega⟩
    ·rcases Nat.eq_zero_or_pos d with h2 | h2
     ·exact .inr (.inl ⟨⟨h1, h2⟩, fun h => by have := hdeep.1 h.2; omega⟩)
     ·exact .inr (.inr ⟨⟨h1, h2⟩, hdeep.2 h2⟩)
   rcases h3 with ⟨hb0, hb⟩ | ⟨⟨hb0, hd0⟩, hb⟩ | ⟨hb, hdp⟩
   ·skip
    iterate 4 refine a_op ?_
    refine a_go ?_
    refine a_go ?_
    refine a_op ?_
    refine a_op ?_
    refine a_no ?_
    refine a_no ?_
    refine a_op ?_
    refine a_op ?_
    refine s_nil (r_false ?_)
    refine q_next ?_
    refine a_false ?_
    refine k_region rfl ?_
    refine a_op ?_
    refine a_op ?_
    refine s_nil (r_false ?_)
    refine q_block (q_next ?_)
    refine k_seq ?_
    refine k_region rfl ?_
    iterate 4 refine a_op ?_
    refine s_nil (r_false ?_)
    refine q_next ?_
    refine k_ret ?_
    refine ⟨.inr rfl, a_ret [(.p 0, .p 0)] (by rw [results114]) ?_ ?_ ?_⟩ <;> simp [-List.map_set, -List.map_replicate, -List.reduceReplicate, -List.map_map, -List.map_drop, -List.map_take, num, bol, txt, w8, w16, w32, w64, lst, cls, rowO, boxO, List.take_of_length_le, rdD, rdS_3x hl hb, Wr.cellsL_len, wA, Wr.k, Wr.n, Wr.s, Wr.l, Wr.cellsL, erT, chT, chV, wvT, Wr.z, CUT, KS, LONGER, List.take_of_length_le]
   ·skip
    iterate 4 refine a_op ?_
    refine a_go ?_
    refine a_go ?_
    refine a_op ?_
    refine a_op ?_
    refine a_go ?_
    refine a_go ?_
    refine a_op ?_
    refine a_op ?_
    refine s_nil (r_false ?_)
    refine q_next ?_
    refine a_false ?_
    refine k_region rfl ?_
    refine a_op ?_
    refine a_op ?_
    refine s_nil (r_false ?_)
    refine q_block (q_next ?_)
    refine k_seq ?_
    refine k_region rfl ?_
    iterate 4 refine a_op ?_
    refine s_nil (r_false ?_)
    refine q_next ?_
    refine k_ret ?_
    refine ⟨.inr rfl, a_ret [(.p 0, .p 0)] (by rw [results114]) ?_ ?_ ?_⟩ <;> simp [-List.map_set, -List.map_replicate, -List.reduceReplicate, -List.map_map, -List.map_drop, -List.map_take, num, bol, txt, w8, w16, w32, w64, lst, cls, rowO, boxO, List.take_of_length_le, rdD, rdS_3x hl hb, Wr.cellsL_len, wA, Wr.k, Wr.n, Wr.s, Wr.l, Wr.cellsL, erT, chT, chV, wvT, Wr.z, CUT, KS, LONGER, List.take_of_length_le]
   ·skip
    iterate 4 refine a_op ?_
    refine a_go ?_
    refine a_go ?_
    refine a_op ?_
    refine a_op ?_
    refine a_go ?_
    refine a_go ?_
    refine a_op ?_
    refine a_op ?_
    refine s_nil (r_false ?_)
    refine q_next ?_
    refine a_true ?_
    refine k_seq ?_
    refine k_region rfl ?_
    refine a_op ?_
    refine s_nil (r_false ?_)
    refine q_next ?_
    refine k_block ?_
    refine k_loopF (fun sl L (i : Nat) => ⟨setAll (setBad sl [6, 9, 12, 13, 14, 15, 16, 17, 18, 19, 20, 21, 22, 23, 24, 25, 26, 27, 28, 29, 30, 31, 32, 33, 35, 36, 37, 38, 39, 40, 41, 42, 43, 44, 45, 46, 47, 48, 49, 50, 51, 52, 53, 54, 55, 56, 57, 58, 59, 60, 61, 62, 63, 64, 65, 66, 67, 68, 69, 70, 71, 72, 73, 74, 75, 76, 77, 78, 79, 80, 81, 82, 83, 84, 85, 86, 87, 88, 89, 90, 91, 92, 93, 94, 95, 96, 97, 98, 99, 100, 101]) [(7, .t (erT (lpW sub (q.drop 4) i).2.1)), (11, .t (num i))], Go.Ot.look (putL (.r 4 3 0) (boxO 94 [.t (num 3), .t (num 0), .t (txt []), .msl (.n 9) 0 (lpW sub (q.drop 4) i).1.length 4]) (putL (.n 9) ⟨(Wr.cellsL (lpW sub (q.drop 4) i).1).map .t, 94, true, true⟩ (putL (.p 0) (boxO 167 [.t (txt ((lpW sub (q.drop 4) i).2.2))]) L)))⟩) (fun i => i ≤ (bn (q.take 4))) (fun i => (bn (q.take 4)) - i) (0) (a_le ?_) ?_ ?_
    ·refine le_of [(.r 0 0 0, .r 0 0 0), (.r 4 3 0, .r 4 3 0), (.p 0, .p 0)] ?_ ?_ ?_ <;> simp [-List.map_set, -List.map_replicate, -List.reduceReplicate, -List.map_map, -List.map_drop, -List.map_take, num, bol, txt, w8, w16, w32, w64, lst, cls, rowO, boxO, List.take_of_length_le, rdD, lpW, Wr.cellsL_len, wA, Wr.k, Wr.n, Wr.s, Wr.l, Wr.cellsL, erT, chT, chV, wvT, Wr.z, CUT, KS, LONGER]
    ·(first | omega | simp)
    ·intro i hi
     have h3 : (∃ l rr, lpW sub (q.drop 4) i = (l, .ok, rr) ∧ i < (bn (q.take 4))) ∨ i = (bn (q.take 4)) ∨ (∃ l p s rr, lpW sub (q.drop 4) i = (l, .bad p s, rr) ∧ i < (bn (q.take 4))) := by
      rcases Nat.lt_or_ge i (bn (q.take 4)) with h1 | h1
      ·rcases h : lpW sub (q.drop 4) i with ⟨l, _ | ⟨p, s⟩, rr⟩
       ·exact .inl ⟨l, rr, rfl, h1⟩
       ·exact .inr (.inr ⟨l, p, s, rr, rfl, h1⟩)
      ·exact .inr (.inl (by omega))
     rcases h3 with ⟨l, rr, he, hiN⟩ | hiN | ⟨l, p, s, rr, he, hiN⟩
     all_goals (have hll := lpW_len sub (q.drop 4) i)
     all_goals (try (rw [he] at hll; dsimp only at hll; simp only [he]))
     ·refine a_st ?_
      refine k_seq ?_
      refine k_seq ?_
      refine k_region rfl ?_
      iterate 5 refine a_op ?_
      refine a_go ?_
      refine a_nilnilgo false ?_
      refine a_op ?_
      refine s_nil (r_false ?_)
      refine q_next ?_
      refine a_true ?_
      refine k_skip ?_
      refine q_next ?_
      refine k_seq ?_
      refine k_block ?_
      refine k_seq ?_
      refine k_region rfl ?_
      refine a_op ?_
      refine s_nil (r_false ?_)
      refine q_next ?_
      refine k_seq ?_
      refine k_seq ?_
      refine k_region rfl ?_
      rcases hx : sub rr with ⟨⟨xk, xn, xs, xl⟩, _ | ⟨p, s⟩, r2⟩
      ·skip
       iterate 3 refine a_op ?_
       refine a_callp [.p 0] [] [] true ((by have h := IH hdp rr (by have := lpW_le hsub (q.drop 4) i; rw [he] at this; simp at this; omega); rw [hx] at h; exact h)) ?_
       iterate 5 refine a_op ?_
       refine s_nil (r_false ?_)
       refine q_next ?_
       refine k_seq ?_
       refine k_region rfl ?_
       refine a_op ?_
       refine a_nilnil true ?_
       refine s_nil (r_false ?_)
       refine q_next ?_
       refine a_false ?_
       refine k_skip ?_
       refine q_next ?_
       refine k_region rfl ?_
       iterate 7 refine a_op ?_
       refine s_nil (r_false ?_)
       refine q_block (q_next ?_)
       refine k_region rfl ?_
       iterate 3 refine a_op ?_
       refine s_nil (r_false ?_)
       refine q_loopF (i + 1) (a_le ?_) ?_ ?_
       ·refine le_of [(.r 0 0 0, .r 0 0 0), (.r 4 3 0, .r 4 3 0), (.p 0, .p 0), (.n 9, .n 9)] ?_ ?_ ?_ <;> simp [-List.map_set, -List.map_replicate, -List.reduceReplicate, -List.map_map, -List.map_drop, -List.map_take, num, bol, txt, w8, w16, w32, w64, lst, cls, rowO, boxO, List.take_of_length_le, rdD, lpW_succ he hx, Er.within, cells_app, wC, Wr.cellsL_len, wA, Wr.k, Wr.n, Wr.s, Wr.l, Wr.cellsL, erT, chT, chV, wvT, Wr.z, CUT, KS, LONGER]
       ·(first | omega | (simp_all <;> omega))
       ·(first | omega | (simp only []; omega))
      ·skip
       iterate 3 refine a_op ?_
       refine a_callp [.p 0] [] [] true ((by have h := IH hdp rr (by have := lpW_le hsub (q.drop 4) i; rw [he] at this; simp at this; omega); rw [hx] at h; exact h)) ?_
       iterate 5 refine a_op ?_
       refine s_nil (r_false ?_)
       refine q_next ?_
       refine k_seq ?_
       refine k_region rfl ?_
       refine a_op ?_
       refine a_isnil true ?_
       refine s_nil (r_false ?_)
       refine q_next ?_
       refine a_true ?_
       refine k_region rfl ?_
       iterate 5 refine a_op ?_
       refine s_nil (r_false ?_)
       refine q_next ?_
       refine k_region rfl ?_
       iterate 7 refine a_op ?_
       refine s_nil (r_false ?_)
       refine q_block (q_next ?_)
       refine k_region rfl ?_
       iterate 3 refine a_op ?_
       refine s_nil (r_false ?_)
       refine q_loopF (i + 1) (a_le ?_) ?_ ?_
       ·refine le_of [(.r 0 0 0, .r 0 0 0), (.r 4 3 0, .r 4 3 0), (.p 0, .p 0), (.n 9, .n 9)] ?_ ?_ ?_ <;> simp [-List.map_set, -List.map_replicate, -List.reduceReplicate, -List.map_map, -List.map_drop, -List.map_take, num, bol, txt, w8, w16, w32, w64, lst, cls, rowO, boxO, List.take_of_length_le, rdD, lpW_succ he hx, Er.within, cells_app, wC, Wr.cellsL_len, wA, Wr.k, Wr.n, Wr.s, Wr.l, Wr.cellsL, erT, chT, chV, wvT, Wr.z, CUT, KS, LONGER]
       ·(first | omega | (simp_all <;> omega))
       ·(first | omega | (simp only []; omega))
     ·refine a_st ?_
      refine k_seq ?_
      refine k_seq ?_
      refine k_region rfl ?_
      iterate 5 refine a_op ?_
      refine a_no ?_
      refine a_no ?_
      refine a_op ?_
      refine s_nil (r_false ?_)
      refine q_next ?_
      refine a_false ?_
      refine k_exit ?_
      refine q_seq_exit (q_loopF_exit (q_block_exit (q_block (q_next ?_))))
      refine k_seq ?_
      refine k_region rfl ?_
      iterate 4 refine a_op ?_
      refine s_nil (r_false ?_)
      refine q_next ?_
      refine k_ret ?_
      refine ⟨.inr rfl, a_ret [(.p 0, .p 0)] (by rw [results114]) ?_ ?_ ?_⟩ <;> simp [-List.map_set, -List.map_replicate, -List.reduceReplicate, -List.map_map, -List.map_drop, -List.map_take, num, bol, txt, w8, w16, w32, w64, lst, cls, rowO, boxO, List.take_of_length_le, rdD, rdS_3w hl ⟨hb.1, hdp⟩, hiN.symm, Wr.cellsL_len, wA, Wr.k, Wr.n, Wr.s, Wr.l, Wr.cellsL, erT, chT, chV, wvT, Wr.z, CUT, KS, LONGER, List.take_of_length_le]
     ·refine a_st ?_
      refine k_seq ?_
      refine k_seq ?_
      refine k_region rfl ?_
      iterate 5 refine a_op ?_
      refine a_go ?_
      refine a_isnilgo false ?_
      refine a_op ?_
      refine s_nil (r_false ?_)
      refine q_next ?_
      refine a_false ?_
      refine k_exit ?_
      refine q_seq_exit (q_loopF_exit (q_block_exit (q_block (q_next ?_))))
      refine k_seq ?_
      refine k_region rfl ?_
      iterate 4 refine a_op ?_
      refine s_nil (r_false ?_)
      refine q_next ?_
      refine k_ret ?_
      refine ⟨.inr rfl, a_ret [(.p 0, .p 0)] (by rw [results114]) ?_ ?_ ?_⟩ <;> simp [-List.map_set, -List.map_replicate, -List.reduceReplicate, -List.map_map, -List.map_drop, -List.map_take, num, bol, txt, w8, w16, w32, w64, lst, cls, rowO, boxO, List.take_of_length_le, rdD, rdS_3w hl ⟨hb.1, hdp⟩, lpW_stop' he (Nat.le_of_lt hiN), Wr.cellsL_len, wA, Wr.k, Wr.n, Wr.s, Wr.l, Wr.cellsL, erT, chT, chV, wvT, Wr.z, CUT, KS, LONGER, List.take_of_length_le]
 ·skip
  refine a_op ?_
  refine a_callp [.p 0] [] [] false ((by have h := number_ok Γ (k :: q) 1 (by simp) (by omega) hr; rw [bn_one] at h; exact h)) ?_
  iterate 5 refine a_op ?_
  refine s_nil (r_false ?_)
  refine q_next ?_
  refine k_seq ?_
  refine k_seq ?_
  refine k_region rfl ?_
  refine a_op ?_
  refine a_nilnil true ?_
  refine s_nil (r_false ?_)
  refine q_next ?_
  refine a_false ?_
  refine k_skip ?_
  refine q_next ?_
  refine k_seq ?_
  refine k_region rfl ?_
  have hq : q.length ≤ 1000000 := by simp at hr; omega
  have hk8 := UInt8.toNat_lt k
  iterate 5 refine a_op ?_
  refine s_nil (r_false ?_)
  refine q_next ?_
  refine k_seq ?_
  refine k_region rfl ?_
  refine a_op ?_
  refine s_nil (r_false ?_)
  refine q_next ?_
  refine k_seq ?_
  refine k_seq ?_
  refine k_region rfl ?_
  iterate 3 refine a_op ?_
  refine s_nil (r_false ?_)
  refine q_next ?_
  refine a_false ?_
  refine k_skip ?_
  refine q_next ?_
  refine k_seq ?_
  refine k_region rfl ?_
  rcases Nat.lt_or_ge q.length 4 with hl | hl
  ·skip
   refine a_op ?_
   refine a_op ?_
   refine a_callp [.p 0] [] [] false (number_cut Γ q 4 hl hq) ?_
   iterate 5 refine a_op ?_
   refine s_nil (r_false ?_)
   refine q_next ?_
   refine k_seq ?_
   refine k_block ?_
   refine k_seq ?_
   refine k_region rfl ?_
   refine a_op ?_
   refine a_isnil true ?_
   refine a_op ?_
   refine s_nil (r_false ?_)
   refine q_next ?_
   refine a_true ?_
   refine k_skip ?_
   refine q_block (q_next ?_)
   refine k_seq ?_
   refine k_region rfl ?_
   iterate 4 refine a_op ?_
   refine s_nil (r_false ?_)
   refine q_next ?_
   refine k_ret ?_
   refine ⟨.inr rfl, a_ret [(.p 0, .p 0)] (by rw [results114]) ?_ ?_ ?_⟩ <;> simp [-List.map_set, -List.map_replicate, -List.reduceReplicate, -List.map_map, -List.map_drop, -List.map_take, num, bol, txt, w8, w16, w32, w64, lst, cls, rowO, boxO, List.take_of_length_le, rdD, rdS_c (k := k) (by exact hk.1) hl, Wr.cellsL_len, wA, Wr.k, Wr.n, Wr.s, Wr.l, Wr.cellsL, erT, chT, chV, wvT, Wr.z, CUT, KS, LONGER, List.take_of_length_le]
  ·skip
   refine a_op ?_
   refine a_op ?_
   refine a_callp [.p 0] [] [] false (number_ok Γ q 4 hl (by omega) hq) ?_
   iterate 5 refine a_op ?_
   refine s_nil (r_false ?_)
   refine q_next ?_
   refine k_seq ?_
   refine k_block ?_
   refine k_seq ?_
   refine k_region rfl ?_
   refine a_op ?_
   refine a_nilnil true ?_
   refine a_op ?_
   refine s_nil (r_false ?_)
   refine q_next ?_
   refine a_false ?_
   refine k_seq ?_
   refine k_region rfl ?_
   iterate 4 refine a_op ?_
   refine s_nil (r_false ?_)
   refine q_next ?_
   refine a_false ?_
   refine k_seq ?_
   refine k_region rfl ?_
   have hb4 := bn4 q
   iterate 4 refine a_op ?_
   refine a_no ?_
   refine a_no ?_
   refine a_op ?_
   refine a_op ?_
   refine s_nil (r_false ?_)
   refine q_next ?_
   refine a_false ?_
   refine k_seq ?_
   refine k_region rfl ?_
   skip
   iterate 4 refine a_op ?_
   refine a_no ?_
   refine a_no ?_
   refine a_op ?_
   refine a_op ?_
   refine a_no ?_
   refine a_no ?_
   refine a_op ?_
   refine a_op ?_
   refine s_nil (r_false ?_)
   refine q_next ?_
   refine a_false ?_
   refine k_region rfl ?_
   refine a_op ?_
   refine a_op ?_
   refine s_nil (r_false ?_)
   refine q_block (q_next ?_)
   refine k_seq ?_
   refine k_region rfl ?_
   iterate 4 refine a_op ?_
   refine s_nil (r_false ?_)
   refine q_next ?_
   refine k_ret ?_
   refine ⟨.inr rfl, a_ret [(.p 0, .p 0)] (by rw [results114]) ?_ ?_ ?_⟩ <;> simp [-List.map_set, -List.map_replicate, -List.reduceReplicate, -List.map_map, -List.map_drop, -List.map_take, num, bol, txt, w8, w16, w32, w64, lst, cls, rowO, boxO, List.take_of_length_le, rdD, rdS_o hk hl, Wr.cellsL_len, wA, Wr.k, Wr.n, Wr.s, Wr.l, Wr.cellsL, erT, chT, chV, wvT, Wr.z, CUT, KS, LONGER, List.take_of_length_le]

end Go.Proofs.Tryz
