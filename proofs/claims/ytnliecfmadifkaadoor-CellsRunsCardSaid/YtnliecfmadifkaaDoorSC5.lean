/- Contracts of this program's functions. -/
import Derived.Test.YtnliecfmadifkaaDoorSC2
set_option maxHeartbeats 4000000
set_option maxRecDepth 100000
set_option linter.unusedVariables false
set_option linter.unusedSimpArgs false
namespace Go.Proofs.Tryd
open Go Go.Ot
attribute [local irreducible] wpK wpS seqK blockK loopF regK meetK OpSpec Le nowF fallF
theorem fallN (Γ : Gl) (s : St4) (cr ct : Int) (dn : Bool) (c : Int) (ks : List Bool) (hk : ks.length ≤ maxLen) : Go.Ot.Good Γ prog 14 [.ptr (.p 0) 0, .agg [.t (num c), .t (lst bol ks)]] [boxO 57 [.t (txt (s 0)), .t (txt (s 1)), .t (txt (s 2)), .t (txt (s 3)), .t (.v (.slice none 0 0)), .t (num (cr)), .t (.v (.slice none 0 0)), .t (num (ct)), .t (bol (dn))]] (.tup []) [some (boxO 57 [.t (txt (s 0)), .t (txt (s 1)), .t (txt (s 2)), .t (txt (s 3)), .t (.v (.slice none 0 0)), .t (num (c)), .t (.v (.slice none 0 0)), .t (num (0)), .t (bol (false))])] [] := by
  refine a_body F.mix func14 (by rfl) ntmps14 ?_
  refine k_seq ?_
  refine k_region rfl ?_
  refine a_op ?_
  refine s_nil (r_false ?_)
  refine q_next ?_
  refine k_seq ?_
  refine k_seq ?_
  refine k_region rfl ?_
  refine a_op ?_
  refine a_by (spec_ptrNil false rfl rfl (by kernel_rfl)) ?_
  refine s_nil (r_false ?_)
  refine q_next ?_
  refine a_false ?_
  refine k_skip ?_
  refine q_next ?_
  refine k_seq ?_
  refine k_seq ?_
  refine k_region rfl ?_
  iterate 6 refine a_op ?_
  refine s_nil (r_false ?_)
  refine q_next ?_
  refine k_block ?_
  refine k_loopF (fun sl L (i : Nat) => ⟨setAll (setBad sl [1, 4, 5, 6, 7, 8, 9, 10, 14, 15, 16, 17, 18, 19, 20, 21, 22, 23, 24, 25, 26, 27, 28, 29, 30, 31, 32, 33, 34, 35, 36, 37, 38, 39, 40, 41]) [(13, .t (num i))], Go.Ot.look (putL (.p 0) (boxO 57 [.t (txt (s 0)), .t (txt (s 1)), .t (txt (s 2)), .t (txt (s 3)), .t (.v (.slice none 0 0)), .t (num (cr)), .t (.v (.slice none 0 0)), .t (num (ct)), .t (bol (dn))]) L)⟩) (fun i => i ≤ 0) (fun i => 0 - i) (0) (a_le ?_) ?_ ?_
  · refine le_same ?_ ?_ ?_ <;> simp [-List.map_set, -List.map_replicate, -List.reduceReplicate, -List.map_map, -List.map_drop, -List.map_take, num, bol, txt, w8, w16, w32, w64, lst, cls, rowO, boxO, List.take_of_length_le, fallF]
  · (first | omega | simp)
  · intro i hi
    refine a_st ?_
    refine k_seq ?_
    refine k_region rfl ?_
    refine a_op ?_
    refine s_nil (r_false ?_)
    refine q_next ?_
    refine k_seq ?_
    refine a_false ?_
    refine k_exit ?_
    refine q_seq_exit (q_loopF_exit (q_block_exit (q_next ?_)))
    refine k_region rfl ?_
    refine a_op ?_
    refine a_op ?_
    refine a_callp [.p 0] [] [] false (fresh_good Γ s (.v (.slice none 0 0)) cr ct dn c (lst bol ks)) ?_
    refine s_nil (r_false ?_)
    refine ⟨.inl rfl, a_ret [(.p 0, .p 0)] (by rw [results14]) ?_ ?_ ?_⟩ <;> simp [-List.map_set, -List.map_replicate, -List.reduceReplicate, -List.map_map, -List.map_drop, -List.map_take, num, bol, txt, w8, w16, w32, w64, lst, cls, rowO, boxO, List.take_of_length_le]

theorem fallR (Γ : Gl) (s : St4) (l : Chs) (hl : l.length ≤ 1000000) (h4 : In4 l) (cr ct : Int) (dn : Bool) (c : Int) (ks : List Bool) (hk : ks.length ≤ maxLen) : Go.Ot.Good Γ prog 14 [.ptr (.p 0) 0, .agg [.t (num c), .t (lst bol ks)]] [boxO 57 [.t (txt (s 0)), .t (txt (s 1)), .t (txt (s 2)), .t (txt (s 3)), .msl (.p 1) 0 l.length 2, .t (num (cr)), .t (.v (.slice none 0 0)), .t (num (ct)), .t (bol (dn))], ⟨(chL l).map D.t, 64, true, true⟩] (.tup []) [some (boxO 57 [.t (txt ((fallF s l ks l.length) 0)), .t (txt ((fallF s l ks l.length) 1)), .t (txt ((fallF s l ks l.length) 2)), .t (txt ((fallF s l ks l.length) 3)), .t (.v (.slice none 0 0)), .t (num (c)), .t (.v (.slice none 0 0)), .t (num (0)), .t (bol (false))]), none] [] := by
  refine a_body F.mix func14 (by rfl) ntmps14 ?_
  refine k_seq ?_
  refine k_region rfl ?_
  refine a_op ?_
  refine s_nil (r_false ?_)
  refine q_next ?_
  refine k_seq ?_
  refine k_seq ?_
  refine k_region rfl ?_
  refine a_op ?_
  refine a_by (spec_ptrNil false rfl rfl (by kernel_rfl)) ?_
  refine s_nil (r_false ?_)
  refine q_next ?_
  refine a_false ?_
  refine k_skip ?_
  refine q_next ?_
  refine k_seq ?_
  refine k_seq ?_
  refine k_region rfl ?_
  iterate 6 refine a_op ?_
  refine s_nil (r_false ?_)
  refine q_next ?_
  refine k_block ?_
  refine k_loopF (fun sl L (i : Nat) => ⟨setAll (setBad sl [1, 4, 5, 6, 7, 8, 9, 10, 14, 15, 16, 17, 18, 19, 20, 21, 22, 23, 24, 25, 26, 27, 28, 29, 30, 31, 32, 33, 34, 35, 36, 37, 38, 39, 40, 41]) [(13, .t (num i))], Go.Ot.look (putL (.p 0) (boxO 57 [.t (txt ((fallF s l ks i) 0)), .t (txt ((fallF s l ks i) 1)), .t (txt ((fallF s l ks i) 2)), .t (txt ((fallF s l ks i) 3)), .msl (.p 1) 0 l.length 2, .t (num (cr)), .t (.v (.slice none 0 0)), .t (num (ct)), .t (bol (dn))]) L)⟩) (fun i => i ≤ l.length) (fun i => l.length - i) (0) (a_le ?_) ?_ ?_
  · refine le_same ?_ ?_ ?_ <;> simp [-List.map_set, -List.map_replicate, -List.reduceReplicate, -List.map_map, -List.map_drop, -List.map_take, num, bol, txt, w8, w16, w32, w64, lst, cls, rowO, boxO, List.take_of_length_le, fallF]
  · (first | omega | simp)
  · intro i hi
    refine a_st ?_
    refine k_seq ?_
    refine k_region rfl ?_
    refine a_op ?_
    refine s_nil (r_false ?_)
    refine q_next ?_
    refine k_seq ?_
    refine a_if (fun hc1 => ?_) (fun hc1 => ?_)
    · (try simp only [Bool.and_eq_true, Bool.or_eq_true, Bool.or_eq_false_iff, Bool.not_eq_true', Bool.not_eq_false', dec_t, dec_f, Bool.and_eq_false_imp, beq_iff_eq, beq_eq_false_iff_ne, ne_eq] at hc1)
      refine k_skip ?_
      refine q_next ?_
      refine k_seq ?_
      refine k_block ?_
      refine k_seq ?_
      refine k_region rfl ?_
      iterate 6 refine a_op ?_
      refine s_nil (r_false ?_)
      refine q_next ?_
      refine k_seq ?_
      refine k_region rfl ?_
      rcases Nat.eq_zero_or_pos ks.length with he | he
      · skip
        iterate 4 refine a_opd ?_
        have hF : fallF s l ks (i + 1) = fallF s l ks i := fallF_no (by omega)
        refine a_opd ?_
        refine a_nod ?_
        refine a_nod ?_
        refine a_nod ?_
        refine a_nod ?_
        refine a_nod ?_
        refine a_nod ?_
        refine a_nod ?_
        refine a_nod ?_
        refine a_nod ?_
        refine a_opd ?_
        refine s_nil (r_true (by kernel_rfl) ?_)
        refine q_next ?_
        refine a_false ?_
        refine k_skip ?_
        refine q_block (q_next ?_)
        refine k_region rfl ?_
        refine a_op ?_
        refine a_op ?_
        refine s_nil (r_false ?_)
        refine q_loopF (i + 1) (a_le ?_) ?_ ?_
        · refine le_same ?_ ?_ ?_ <;> simp [-List.map_set, -List.map_replicate, -List.reduceReplicate, -List.map_map, -List.map_drop, -List.map_take, num, bol, txt, w8, w16, w32, w64, lst, cls, rowO, boxO, List.take_of_length_le, hF, upd_00, upd_01, upd_02, upd_03, upd_10, upd_11, upd_12, upd_13, upd_20, upd_21, upd_22, upd_23, upd_30, upd_31, upd_32, upd_33]
        · (first | omega | (simp_all <;> omega))
        · (first | omega | (simp only []; omega))
      · skip
        iterate 4 refine a_opd ?_
        obtain ⟨m, hm, hml, hme⟩ := mod_nat i ks.length he
        refine a_opd ?_
        refine a_god ?_
        refine a_god ?_
        refine a_god ?_
        refine a_god ?_
        refine a_god ?_
        refine a_god ?_
        refine a_god (hs := by (simp (disch := omega) only [push_cast, hm] <;> rfl)) ?_
        refine a_god ?_
        refine a_god ?_
        refine a_opd ?_
        refine s_nil (r_true (by kernel_rfl) ?_)
        refine q_next ?_
        refine a_if (fun hc2 => ?_) (fun hc2 => ?_)
        · (try simp only [Bool.and_eq_true, Bool.or_eq_true, Bool.or_eq_false_iff, Bool.not_eq_true', Bool.not_eq_false', dec_t, dec_f, Bool.and_eq_false_imp, beq_iff_eq, beq_eq_false_iff_ne, ne_eq] at hc2)
          have hF : fallF s l ks (i + 1) = _ := fallF_yes (by omega) (by rw [← hme]; exact hc2)
          refine k_region rfl ?_
          have hx := h4 i (by omega)
          generalize l.getD i default = xx at hF hx ⊢
          obtain ⟨xi, xs⟩ := xx
          simp only at hF hx
          rcases (show xi = 0 ∨ xi = 1 ∨ xi = 2 ∨ xi = 3 by omega) with rfl | rfl | rfl | rfl
          · skip
            iterate 9 refine a_opd ?_
            refine s_nil (r_true (by kernel_rfl) ?_)
            refine q_block (q_next ?_)
            refine k_region rfl ?_
            refine a_op ?_
            refine a_op ?_
            refine s_nil (r_false ?_)
            refine q_loopF (i + 1) (a_le ?_) ?_ ?_
            · refine le_same ?_ ?_ ?_ <;> simp [-List.map_set, -List.map_replicate, -List.reduceReplicate, -List.map_map, -List.map_drop, -List.map_take, num, bol, txt, w8, w16, w32, w64, lst, cls, rowO, boxO, List.take_of_length_le, hF, upd_00, upd_01, upd_02, upd_03, upd_10, upd_11, upd_12, upd_13, upd_20, upd_21, upd_22, upd_23, upd_30, upd_31, upd_32, upd_33]
            · (first | omega | (simp_all <;> omega))
            · (first | omega | (simp only []; omega))
          · skip
            iterate 9 refine a_opd ?_
            refine s_nil (r_true (by kernel_rfl) ?_)
            refine q_block (q_next ?_)
            refine k_region rfl ?_
            refine a_op ?_
            refine a_op ?_
            refine s_nil (r_false ?_)
            refine q_loopF (i + 1) (a_le ?_) ?_ ?_
            · refine le_same ?_ ?_ ?_ <;> simp [-List.map_set, -List.map_replicate, -List.reduceReplicate, -List.map_map, -List.map_drop, -List.map_take, num, bol, txt, w8, w16, w32, w64, lst, cls, rowO, boxO, List.take_of_length_le, hF, upd_00, upd_01, upd_02, upd_03, upd_10, upd_11, upd_12, upd_13, upd_20, upd_21, upd_22, upd_23, upd_30, upd_31, upd_32, upd_33]
            · (first | omega | (simp_all <;> omega))
            · (first | omega | (simp only []; omega))
          · skip
            iterate 9 refine a_opd ?_
            refine s_nil (r_true (by kernel_rfl) ?_)
            refine q_block (q_next ?_)
            refine k_region rfl ?_
            refine a_op ?_
            refine a_op ?_
            refine s_nil (r_false ?_)
            refine q_loopF (i + 1) (a_le ?_) ?_ ?_
            · refine le_same ?_ ?_ ?_ <;> simp [-List.map_set, -List.map_replicate, -List.reduceReplicate, -List.map_map, -List.map_drop, -List.map_take, num, bol, txt, w8, w16, w32, w64, lst, cls, rowO, boxO, List.take_of_length_le, hF, upd_00, upd_01, upd_02, upd_03, upd_10, upd_11, upd_12, upd_13, upd_20, upd_21, upd_22, upd_23, upd_30, upd_31, upd_32, upd_33]
            · (first | omega | (simp_all <;> omega))
            · (first | omega | (simp only []; omega))
          · skip
            iterate 9 refine a_opd ?_
            refine s_nil (r_true (by kernel_rfl) ?_)
            refine q_block (q_next ?_)
            refine k_region rfl ?_
            refine a_op ?_
            refine a_op ?_
            refine s_nil (r_false ?_)
            refine q_loopF (i + 1) (a_le ?_) ?_ ?_
            · refine le_same ?_ ?_ ?_ <;> simp [-List.map_set, -List.map_replicate, -List.reduceReplicate, -List.map_map, -List.map_drop, -List.map_take, num, bol, txt, w8, w16, w32, w64, lst, cls, rowO, boxO, List.take_of_length_le, hF, upd_00, upd_01, upd_02, upd_03, upd_10, upd_11, upd_12, upd_13, upd_20, upd_21, upd_22, upd_23, upd_30, upd_31, upd_32, upd_33]
            · (first | omega | (simp_all <;> omega))
            · (first | omega | (simp only []; omega))
        · (try simp only [Bool.and_eq_true, Bool.or_eq_true, Bool.or_eq_false_iff, Bool.not_eq_true', Bool.not_eq_false', dec_t, dec_f, Bool.and_eq_false_imp, beq_iff_eq, beq_eq_false_iff_ne, ne_eq] at hc2)
          have hF : fallF s l ks (i + 1) = fallF s l ks i := fallF_no (by rintro ⟨_, h⟩; rw [← hme, show (default : Bool) = false from rfl, hc2] at h; cases h)
          refine k_skip ?_
          refine q_block (q_next ?_)
          refine k_region rfl ?_
          refine a_op ?_
          refine a_op ?_
          refine s_nil (r_false ?_)
          refine q_loopF (i + 1) (a_le ?_) ?_ ?_
          · refine le_same ?_ ?_ ?_ <;> simp [-List.map_set, -List.map_replicate, -List.reduceReplicate, -List.map_map, -List.map_drop, -List.map_take, num, bol, txt, w8, w16, w32, w64, lst, cls, rowO, boxO, List.take_of_length_le, hF, upd_00, upd_01, upd_02, upd_03, upd_10, upd_11, upd_12, upd_13, upd_20, upd_21, upd_22, upd_23, upd_30, upd_31, upd_32, upd_33]
          · (first | omega | (simp_all <;> omega))
          · (first | omega | (simp only []; omega))
    · (try simp only [Bool.and_eq_true, Bool.or_eq_true, Bool.or_eq_false_iff, Bool.not_eq_true', Bool.not_eq_false', dec_t, dec_f, Bool.and_eq_false_imp, beq_iff_eq, beq_eq_false_iff_ne, ne_eq] at hc1)
      obtain rfl : i = l.length := by omega
      refine k_exit ?_
      refine q_seq_exit (q_loopF_exit (q_block_exit (q_next ?_)))
      refine k_region rfl ?_
      refine a_op ?_
      refine a_op ?_
      refine a_callp [.p 0] [.p 1] [] false (fresh_good Γ (fallF s l ks l.length) (.sl l.length (chL l)) cr ct dn c (lst bol ks)) ?_
      refine s_nil (r_false ?_)
      refine ⟨.inl rfl, a_ret [(.p 0, .p 0)] (by rw [results14]) ?_ ?_ ?_⟩ <;> simp [-List.map_set, -List.map_replicate, -List.reduceReplicate, -List.map_map, -List.map_drop, -List.map_take, num, bol, txt, w8, w16, w32, w64, lst, cls, rowO, boxO, List.take_of_length_le]

end Go.Proofs.Tryd
