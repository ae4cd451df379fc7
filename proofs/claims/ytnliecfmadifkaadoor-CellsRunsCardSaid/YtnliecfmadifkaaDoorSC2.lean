/- Contracts of this program's functions. -/
import Derived.Test.YtnliecfmadifkaaDoorSC1
set_option maxHeartbeats 4000000
set_option maxRecDepth 100000
set_option linter.unusedVariables false
set_option linter.unusedSimpArgs false
namespace Go.Proofs.Tryd
open Go Go.Ot

theorem mod_nat (i n : Nat) (h : 0 < n) : ∃ m : Nat, (i : Int) % (n : Int) = (m : Int) ∧ m < n ∧ m = i % n := ⟨i % n, by simp, Nat.mod_lt _ h, rfl⟩
/-- What a fall keeps of the first changes. -/
def fallF (s : St4) (l : Chs) (ks : List Bool) : Nat → St4
  | 0 => s
  | k + 1 => if 0 < ks.length ∧ ks.getD (k % ks.length) default = true then upd (fallF s l ks k) (l.getD k default).1 (l.getD k default).2 else fallF s l ks k
theorem fallF_yes {s : St4} {l : Chs} {ks : List Bool} {k : Nat} (h : 0 < ks.length) (h2 : ks.getD (k % ks.length) default = true) : fallF s l ks (k + 1) = upd (fallF s l ks k) (l.getD k default).1 (l.getD k default).2 := by rw [fallF, if_pos ⟨h, h2⟩]
theorem fallF_no {s : St4} {l : Chs} {ks : List Bool} {k : Nat} (h : ¬ (0 < ks.length ∧ ks.getD (k % ks.length) default = true)) : fallF s l ks (k + 1) = fallF s l ks k := by rw [fallF, if_neg h]
def In4 (l : Chs) : Prop := ∀ i, i < l.length → (l.getD i default).1 < 4
attribute [local irreducible] wpK wpS seqK blockK loopF regK meetK OpSpec Le nowF
theorem nowN (Γ : Gl) (s : St4) (cr ct : Int) (dn : Bool) : Go.Ot.Good Γ prog 27 [.ptr (.p 0) 0] [boxO 57 [.t (txt (s 0)), .t (txt (s 1)), .t (txt (s 2)), .t (txt (s 3)), .t (.v (.slice none 0 0)), .t (num (cr)), .t (.v (.slice none 0 0)), .t (num (ct)), .t (bol (dn))]] (.agg [.t (txt ((s) 0)), .t (txt ((s) 1)), .t (txt ((s) 2)), .t (txt ((s) 3))]) [some (boxO 57 [.t (txt (s 0)), .t (txt (s 1)), .t (txt (s 2)), .t (txt (s 3)), .t (.v (.slice none 0 0)), .t (num (cr)), .t (.v (.slice none 0 0)), .t (num (ct)), .t (bol (dn))])] [] := by
  refine a_body F.mix func27 (by rfl) ntmps27 ?_
  refine k_seq ?_
  refine k_region rfl ?_
  refine a_op ?_
  refine s_nil (r_false ?_)
  refine q_next ?_
  refine k_seq ?_
  refine k_region rfl ?_
  iterate 6 refine a_op ?_
  refine s_nil (r_false ?_)
  refine q_next ?_
  refine k_seq ?_
  refine k_seq ?_
  refine k_region rfl ?_
  iterate 6 refine a_op ?_
  refine s_nil (r_false ?_)
  refine q_next ?_
  refine k_block ?_
  refine k_loopF (fun sl L (i : Nat) => ⟨setAll (setBad sl [0, 5, 6, 7, 8, 9, 10, 11, 12, 16, 17, 18, 19, 20, 21, 22, 23, 24]) [(15, .t (num i))], Go.Ot.look (putL (.r 1 4 0) (boxO 49 [.t (txt (s 0)), .t (txt (s 1)), .t (txt (s 2)), .t (txt (s 3))]) L)⟩) (fun i => i ≤ 0) (fun i => 0 - i) (0) (a_le ?_) ?_ ?_
  · refine le_same ?_ ?_ ?_ <;> simp [-List.map_set, -List.map_replicate, -List.reduceReplicate, -List.map_map, -List.map_drop, -List.map_take, num, bol, txt, w8, w16, w32, w64, lst, cls, rowO, boxO, List.take_of_length_le, nowF_nil, List.take_zero, nowF_nil]
  · (first | omega | simp)
  · intro i hi
    refine a_st ?_
    refine k_seq ?_
    refine k_region rfl ?_
    refine a_op ?_
    refine s_nil (r_false ?_)
    refine q_next ?_
    refine k_seq ?_
    refine a_false ?_
    refine k_exit ?_
    refine q_seq_exit (q_loopF_exit (q_block_exit (q_next ?_)))
    refine k_seq ?_
    refine k_region rfl ?_
    refine a_op ?_
    refine a_op ?_
    refine s_nil (r_false ?_)
    refine q_next ?_
    refine k_ret ?_
    refine ⟨.inr rfl, a_ret [(.p 0, .p 0)] (by rw [results27]) ?_ ?_ ?_⟩ <;> simp [-List.map_set, -List.map_replicate, -List.reduceReplicate, -List.map_map, -List.map_drop, -List.map_take, num, bol, txt, w8, w16, w32, w64, lst, cls, rowO, boxO, List.take_of_length_le, nowF_nil]

theorem nowR (Γ : Gl) (s : St4) (l : Chs) (hl : l.length ≤ 1000000) (h4 : In4 l) (cr ct : Int) (dn : Bool) : Go.Ot.Good Γ prog 27 [.ptr (.p 0) 0] [boxO 57 [.t (txt (s 0)), .t (txt (s 1)), .t (txt (s 2)), .t (txt (s 3)), .msl (.p 1) 0 l.length 2, .t (num (cr)), .t (.v (.slice none 0 0)), .t (num (ct)), .t (bol (dn))], ⟨(chL l).map D.t, 64, true, true⟩] (.agg [.t (txt ((nowF s l) 0)), .t (txt ((nowF s l) 1)), .t (txt ((nowF s l) 2)), .t (txt ((nowF s l) 3))]) [some (boxO 57 [.t (txt (s 0)), .t (txt (s 1)), .t (txt (s 2)), .t (txt (s 3)), .msl (.p 1) 0 l.length 2, .t (num (cr)), .t (.v (.slice none 0 0)), .t (num (ct)), .t (bol (dn))]), some ⟨(chL l).map D.t, 64, true, true⟩] [] := by
  refine a_body F.mix func27 (by rfl) ntmps27 ?_
  refine k_seq ?_
  refine k_region rfl ?_
  refine a_op ?_
  refine s_nil (r_false ?_)
  refine q_next ?_
  refine k_seq ?_
  refine k_region rfl ?_
  iterate 6 refine a_op ?_
  refine s_nil (r_false ?_)
  refine q_next ?_
  refine k_seq ?_
  refine k_seq ?_
  refine k_region rfl ?_
  iterate 6 refine a_op ?_
  refine s_nil (r_false ?_)
  refine q_next ?_
  refine k_block ?_
  refine k_loopF (fun sl L (i : Nat) => ⟨setAll (setBad sl [0, 5, 6, 7, 8, 9, 10, 11, 12, 16, 17, 18, 19, 20, 21, 22, 23, 24]) [(15, .t (num i))], Go.Ot.look (putL (.r 1 4 0) (boxO 49 [.t (txt ((nowF s (l.take i)) 0)), .t (txt ((nowF s (l.take i)) 1)), .t (txt ((nowF s (l.take i)) 2)), .t (txt ((nowF s (l.take i)) 3))]) L)⟩) (fun i => i ≤ l.length) (fun i => l.length - i) (0) (a_le ?_) ?_ ?_
  · refine le_same ?_ ?_ ?_ <;> simp [-List.map_set, -List.map_replicate, -List.reduceReplicate, -List.map_map, -List.map_drop, -List.map_take, num, bol, txt, w8, w16, w32, w64, lst, cls, rowO, boxO, List.take_of_length_le, List.take_zero, nowF_nil]
  · (first | omega | simp)
  · intro i hi
    refine a_st ?_
    refine k_seq ?_
    refine k_region rfl ?_
    refine a_op ?_
    refine s_nil (r_false ?_)
    refine q_next ?_
    refine k_seq ?_
    refine a_if (fun hc0 => ?_) (fun hc0 => ?_)
    · (try simp only [Bool.and_eq_true, Bool.or_eq_true, Bool.or_eq_false_iff, Bool.not_eq_true', Bool.not_eq_false', dec_t, dec_f, Bool.and_eq_false_imp, beq_iff_eq, beq_eq_false_iff_ne, ne_eq] at hc0)
      refine k_skip ?_
      refine q_next ?_
      refine k_seq ?_
      refine k_block ?_
      refine k_seq ?_
      refine k_region rfl ?_
      iterate 4 refine a_op ?_
      refine s_nil (r_false ?_)
      refine q_next ?_
      refine k_region rfl ?_
      have hn := nowF_snoc s l i (by omega)
      have hx := h4 i (by omega)
      generalize l.getD i default = xx at hn hx ⊢
      obtain ⟨xi, xs⟩ := xx
      simp only at hn hx
      rcases (show xi = 0 ∨ xi = 1 ∨ xi = 2 ∨ xi = 3 by omega) with rfl | rfl | rfl | rfl
      · skip
        iterate 6 refine a_op ?_
        refine s_nil (r_false ?_)
        refine q_block (q_next ?_)
        refine k_region rfl ?_
        refine a_op ?_
        refine a_op ?_
        refine s_nil (r_false ?_)
        refine q_loopF (i + 1) (a_le ?_) ?_ ?_
        · refine le_same ?_ ?_ ?_ <;> simp [-List.map_set, -List.map_replicate, -List.reduceReplicate, -List.map_map, -List.map_drop, -List.map_take, num, bol, txt, w8, w16, w32, w64, lst, cls, rowO, boxO, List.take_of_length_le, hn, upd_00, upd_01, upd_02, upd_03, upd_10, upd_11, upd_12, upd_13, upd_20, upd_21, upd_22, upd_23, upd_30, upd_31, upd_32, upd_33]
        · (first | omega | (simp_all <;> omega))
        · (first | omega | (simp only []; omega))
      · skip
        iterate 6 refine a_op ?_
        refine s_nil (r_false ?_)
        refine q_block (q_next ?_)
        refine k_region rfl ?_
        refine a_op ?_
        refine a_op ?_
        refine s_nil (r_false ?_)
        refine q_loopF (i + 1) (a_le ?_) ?_ ?_
        · refine le_same ?_ ?_ ?_ <;> simp [-List.map_set, -List.map_replicate, -List.reduceReplicate, -List.map_map, -List.map_drop, -List.map_take, num, bol, txt, w8, w16, w32, w64, lst, cls, rowO, boxO, List.take_of_length_le, hn, upd_00, upd_01, upd_02, upd_03, upd_10, upd_11, upd_12, upd_13, upd_20, upd_21, upd_22, upd_23, upd_30, upd_31, upd_32, upd_33]
        · (first | omega | (simp_all <;> omega))
        · (first | omega | (simp only []; omega))
      · skip
        iterate 6 refine a_op ?_
        refine s_nil (r_false ?_)
        refine q_block (q_next ?_)
        refine k_region rfl ?_
        refine a_op ?_
        refine a_op ?_
        refine s_nil (r_false ?_)
        refine q_loopF (i + 1) (a_le ?_) ?_ ?_
        · refine le_same ?_ ?_ ?_ <;> simp [-List.map_set, -List.map_replicate, -List.reduceReplicate, -List.map_map, -List.map_drop, -List.map_take, num, bol, txt, w8, w16, w32, w64, lst, cls, rowO, boxO, List.take_of_length_le, hn, upd_00, upd_01, upd_02, upd_03, upd_10, upd_11, upd_12, upd_13, upd_20, upd_21, upd_22, upd_23, upd_30, upd_31, upd_32, upd_33]
        · (first | omega | (simp_all <;> omega))
        · (first | omega | (simp only []; omega))
      · skip
        iterate 6 refine a_op ?_
        refine s_nil (r_false ?_)
        refine q_block (q_next ?_)
        refine k_region rfl ?_
        refine a_op ?_
        refine a_op ?_
        refine s_nil (r_false ?_)
        refine q_loopF (i + 1) (a_le ?_) ?_ ?_
        · refine le_same ?_ ?_ ?_ <;> simp [-List.map_set, -List.map_replicate, -List.reduceReplicate, -List.map_map, -List.map_drop, -List.map_take, num, bol, txt, w8, w16, w32, w64, lst, cls, rowO, boxO, List.take_of_length_le, hn, upd_00, upd_01, upd_02, upd_03, upd_10, upd_11, upd_12, upd_13, upd_20, upd_21, upd_22, upd_23, upd_30, upd_31, upd_32, upd_33]
        · (first | omega | (simp_all <;> omega))
        · (first | omega | (simp only []; omega))
    · (try simp only [Bool.and_eq_true, Bool.or_eq_true, Bool.or_eq_false_iff, Bool.not_eq_true', Bool.not_eq_false', dec_t, dec_f, Bool.and_eq_false_imp, beq_iff_eq, beq_eq_false_iff_ne, ne_eq] at hc0)
      obtain rfl : i = l.length := by omega
      simp only [List.take_length]
      refine k_exit ?_
      refine q_seq_exit (q_loopF_exit (q_block_exit (q_next ?_)))
      refine k_seq ?_
      refine k_region rfl ?_
      refine a_op ?_
      refine a_op ?_
      refine s_nil (r_false ?_)
      refine q_next ?_
      refine k_ret ?_
      refine ⟨.inr rfl, a_ret [(.p 0, .p 0), (.p 1, .p 1)] (by rw [results27]) ?_ ?_ ?_⟩ <;> simp [-List.map_set, -List.map_replicate, -List.reduceReplicate, -List.map_map, -List.map_drop, -List.map_take, num, bol, txt, w8, w16, w32, w64, lst, cls, rowO, boxO, List.take_of_length_le]

end Go.Proofs.Tryd
