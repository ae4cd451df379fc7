/- Contracts of this program's functions. -/
import Derived.Test.YtppicdhlpdhoiaaDoorSSN3
import Derived.Test.YtppicdhlpdhoiaaDoorSSM1
set_option maxHeartbeats 4000000
set_option maxRecDepth 100000
set_option linter.unusedVariables false
set_option linter.unusedSimpArgs false
namespace Go.Proofs.Tryd
open Go Go.Ot
attribute [local irreducible] wpK wpS seqK blockK loopF regK meetK OpSpec Le
theorem mix_good (Γ : Gl) (dev : Int) (a b : List Rn) (ha : a.length ≤ 100000) (hb : b.length ≤ 100000) (pa : ∀ r ∈ a, rnP r) (pb : ∀ r ∈ b, rnP r) : Go.Ot.Good Γ prog 50 [.t (num dev), .t (.sl a.length (a.flatMap rnT)), .t (.sl b.length (b.flatMap rnT)), .t (bol false)] [] (.t (.sl (mixF dev a b).length ((mixF dev a b).flatMap rnT))) [] [] := by
 refine a_body F.mix func50 (by rfl) ntmps50 ?_
 refine k_seq ?_
 refine k_region rfl ?_
 refine a_op ?_
 refine s_nil (r_false ?_)
 refine q_next ?_
 refine k_seq ?_
 refine k_region rfl ?_
 refine a_op ?_
 refine s_nil (r_false ?_)
 refine q_next ?_
 refine k_seq ?_
 refine k_seq ?_
 refine k_region rfl ?_
 refine a_op ?_
 refine s_nil (r_false ?_)
 refine q_next ?_
 refine k_block ?_
 refine k_loopF (fun sl L (i : Nat) => ⟨setAll (setBad sl [17, 18, 19, 20, 21, 22, 23, 24, 25, 26, 27, 28, 29, 30, 31, 32, 33, 34, 35, 36, 37, 38, 39, 40, 41, 42, 43]) [(9, .t (lst num (mkF dev (a.take i) []))), (10, .t (num i))], Go.Ot.look (L)⟩) (fun i => i ≤ a.length) (fun i => a.length - i) (0) (a_le ?_) ?_ ?_
 ·refine le_same ?_ ?_ ?_ <;> simp [-List.map_set, -List.map_replicate, -List.reduceReplicate, -List.map_map, -List.map_drop, -List.map_take, num, bol, txt, w8, w16, w32, w64, lst, cls, rowO, boxO, List.take_of_length_le, Wr.cellsL_len, wA, Wr.k_mk, Wr.n_mk, Wr.s_mk, Wr.l_mk, Wr.cellsL, Wr.z_eq, rnT, ftT, show mkF dev [] [] = [] from rfl]
 ·(first | omega | simp)
 ·intro i hi
  refine a_st ?_
  refine k_seq ?_
  refine k_seq ?_
  refine k_region rfl ?_
  iterate 4 refine a_op ?_
  refine s_nil (r_false ?_)
  refine q_next ?_
  refine a_if (fun hc0 => ?_) (fun hc0 => ?_)
  ·(try simp only [Bool.and_eq_true, Bool.or_eq_true, Bool.or_eq_false_iff, Bool.not_eq_true', Bool.not_eq_false', dec_t, dec_f, Bool.and_eq_false_imp, beq_iff_eq, beq_eq_false_iff_ne, ne_eq] at hc0)
   refine k_skip ?_
   refine q_next ?_
   refine k_seq ?_
   refine k_block ?_
   refine k_seq ?_
   refine k_region rfl ?_
   iterate 5 refine a_op ?_
   have hib : i < a.length := by omega
   obtain ⟨r, he⟩ : ∃ r, a.getD i default = r := ⟨_, rfl⟩
   simp only [he]
   obtain ⟨_, _, r3, r4, r5⟩ := rnP_get pa hib he
   have hml := mkF_len (d := dev) (a.take i) []
   have hm0 := mkF_len (d := dev) a []
   rw [List.length_take] at hml
   have hil := ins_len r.fr (mkF dev (a.take i) [])
   simp only [List.length_nil] at hm0 hml
   refine a_op ?_
   refine a_op ?_
   refine s_nil (r_false ?_)
   refine q_next ?_
   refine a_if (fun hc1 => ?_) (fun hc1 => ?_)
   ·(try simp only [Bool.and_eq_true, Bool.or_eq_true, Bool.or_eq_false_iff, Bool.not_eq_true', Bool.not_eq_false', dec_t, dec_f, Bool.and_eq_false_imp, beq_iff_eq, beq_eq_false_iff_ne, ne_eq] at hc1)
    have hnx := mkF_yes (m := []) hib he hc1
    refine k_region rfl ?_
    iterate 6 refine a_opd ?_
    simp only [he]
    refine a_calld [] true (mark_good Γ (mkF dev (a.take i) []) r.fr (by omega) (mkF_up List.Pairwise.nil)) ?_
    iterate 5 refine a_opd ?_
    simp only [he]
    refine a_opd ?_
    refine a_calld [] true (mark_good Γ (ins r.fr (mkF dev (a.take i) [])) (r.to + 1) (by omega) (up_ins (mkF_up List.Pairwise.nil))) ?_
    refine a_opd ?_
    refine s_nil (r_true (by kernel_rfl) ?_)
    refine q_block (q_next ?_)
    refine k_region rfl ?_
    iterate 3 refine a_op ?_
    refine s_nil (r_false ?_)
    refine q_loopF (i + 1) (a_le ?_) ?_ ?_
    ·refine le_same ?_ ?_ ?_ <;> simp [-List.map_set, -List.map_replicate, -List.reduceReplicate, -List.map_map, -List.map_drop, -List.map_take, num, bol, txt, w8, w16, w32, w64, lst, cls, rowO, boxO, List.take_of_length_le, Wr.cellsL_len, wA, Wr.k_mk, Wr.n_mk, Wr.s_mk, Wr.l_mk, Wr.cellsL, Wr.z_eq, rnT, ftT, hnx]
    ·(first | omega | (simp_all <;> omega))
    ·(first | omega | (simp only []; omega))
   ·(try simp only [Bool.and_eq_true, Bool.or_eq_true, Bool.or_eq_false_iff, Bool.not_eq_true', Bool.not_eq_false', dec_t, dec_f, Bool.and_eq_false_imp, beq_iff_eq, beq_eq_false_iff_ne, ne_eq] at hc1)
    have hnx := mkF_not (m := []) hib he hc1
    refine k_skip ?_
    refine q_block (q_next ?_)
    refine k_region rfl ?_
    iterate 3 refine a_op ?_
    refine s_nil (r_false ?_)
    refine q_loopF (i + 1) (a_le ?_) ?_ ?_
    ·refine le_same ?_ ?_ ?_ <;> simp [-List.map_set, -List.map_replicate, -List.reduceReplicate, -List.map_map, -List.map_drop, -List.map_take, num, bol, txt, w8, w16, w32, w64, lst, cls, rowO, boxO, List.take_of_length_le, Wr.cellsL_len, wA, Wr.k_mk, Wr.n_mk, Wr.s_mk, Wr.l_mk, Wr.cellsL, Wr.z_eq, rnT, ftT, hnx]
    ·(first | omega | (simp_all <;> omega))
    ·(first | omega | (simp only []; omega))
  ·(try simp only [Bool.and_eq_true, Bool.or_eq_true, Bool.or_eq_false_iff, Bool.not_eq_true', Bool.not_eq_false', dec_t, dec_f, Bool.and_eq_false_imp, beq_iff_eq, beq_eq_false_iff_ne, ne_eq] at hc0)
   refine k_exit ?_
   refine q_seq_exit (q_loopF_exit (q_block_exit (q_next ?_)))
   refine k_seq ?_
   refine k_seq ?_
   refine k_region rfl ?_
   have hil : i = a.length := by omega
   subst hil
   simp only [List.take_length]
   refine a_op ?_
   refine s_nil (r_false ?_)
   refine q_next ?_
   refine k_block ?_
   refine k_loopF (fun sl L (i : Nat) => ⟨setAll (setBad sl [10, 17, 18, 19, 20, 21, 22, 23, 24, 25, 26, 27, 28, 29, 30, 31, 32, 33, 34, 35, 36, 37, 38, 39, 40, 41, 42, 43, 44, 45, 46, 47, 48, 49, 50, 51, 52, 53, 54, 55, 56, 57, 58, 59, 60, 61, 62, 63, 64, 65, 66, 67, 68, 69, 70]) [(9, .t (lst num (mkF dev (b.take i) (mkF dev a [])))), (11, .t (num i))], Go.Ot.look (L)⟩) (fun i => i ≤ b.length) (fun i => b.length - i) (0) (a_le ?_) ?_ ?_
   ·refine le_same ?_ ?_ ?_ <;> simp [-List.map_set, -List.map_replicate, -List.reduceReplicate, -List.map_map, -List.map_drop, -List.map_take, num, bol, txt, w8, w16, w32, w64, lst, cls, rowO, boxO, List.take_of_length_le, Wr.cellsL_len, wA, Wr.k_mk, Wr.n_mk, Wr.s_mk, Wr.l_mk, Wr.cellsL, Wr.z_eq, rnT, ftT, show mkF dev [] (mkF dev a []) = mkF dev a [] from rfl]
   ·(first | omega | simp)
   ·intro i hi
    refine a_st ?_
    refine k_seq ?_
    refine k_seq ?_
    refine k_region rfl ?_
    iterate 4 refine a_op ?_
    refine s_nil (r_false ?_)
    refine q_next ?_
    refine a_if (fun hc2 => ?_) (fun hc2 => ?_)
    ·(try simp only [Bool.and_eq_true, Bool.or_eq_true, Bool.or_eq_false_iff, Bool.not_eq_true', Bool.not_eq_false', dec_t, dec_f, Bool.and_eq_false_imp, beq_iff_eq, beq_eq_false_iff_ne, ne_eq] at hc2)
     refine k_skip ?_
     refine q_next ?_
     refine k_seq ?_
     refine k_block ?_
     refine k_seq ?_
     refine k_region rfl ?_
     iterate 5 refine a_op ?_
     have hib : i < b.length := by omega
     obtain ⟨r, he⟩ : ∃ r, b.getD i default = r := ⟨_, rfl⟩
     simp only [he]
     obtain ⟨_, _, r3, r4, r5⟩ := rnP_get pb hib he
     have hml := mkF_len (d := dev) (b.take i) (mkF dev a [])
     have hm0 := mkF_len (d := dev) a []
     rw [List.length_take] at hml
     have hil := ins_len r.fr (mkF dev (b.take i) (mkF dev a []))
     simp only [List.length_nil] at hm0 hml
     refine a_op ?_
     refine a_op ?_
     refine s_nil (r_false ?_)
     refine q_next ?_
     refine a_if (fun hc3 => ?_) (fun hc3 => ?_)
     ·(try simp only [Bool.and_eq_true, Bool.or_eq_true, Bool.or_eq_false_iff, Bool.not_eq_true', Bool.not_eq_false', dec_t, dec_f, Bool.and_eq_false_imp, beq_iff_eq, beq_eq_false_iff_ne, ne_eq] at hc3)
      have hnx := mkF_yes (m := mkF dev a []) hib he hc3
      refine k_region rfl ?_
      iterate 6 refine a_opd ?_
      simp only [he]
      refine a_calld [] true (mark_good Γ (mkF dev (b.take i) (mkF dev a [])) r.fr (by omega) (mkF_up (mkF_up List.Pairwise.nil))) ?_
      iterate 5 refine a_opd ?_
      simp only [he]
      refine a_opd ?_
      refine a_calld [] true (mark_good Γ (ins r.fr (mkF dev (b.take i) (mkF dev a []))) (r.to + 1) (by omega) (up_ins (mkF_up (mkF_up List.Pairwise.nil)))) ?_
      refine a_opd ?_
      refine s_nil (r_true (by kernel_rfl) ?_)
      refine q_block (q_next ?_)
      refine k_region rfl ?_
      iterate 3 refine a_op ?_
      refine s_nil (r_false ?_)
      refine q_loopF (i + 1) (a_le ?_) ?_ ?_
      ·refine le_same ?_ ?_ ?_ <;> simp [-List.map_set, -List.map_replicate, -List.reduceReplicate, -List.map_map, -List.map_drop, -List.map_take, num, bol, txt, w8, w16, w32, w64, lst, cls, rowO, boxO, List.take_of_length_le, Wr.cellsL_len, wA, Wr.k_mk, Wr.n_mk, Wr.s_mk, Wr.l_mk, Wr.cellsL, Wr.z_eq, rnT, ftT, hnx]
      ·(first | omega | (simp_all <;> omega))
      ·(first | omega | (simp only []; omega))
     ·(try simp only [Bool.and_eq_true, Bool.or_eq_true, Bool.or_eq_false_iff, Bool.not_eq_true', Bool.not_eq_false', dec_t, dec_f, Bool.and_eq_false_imp, beq_iff_eq, beq_eq_false_iff_ne, ne_eq] at hc3)
      have hnx := mkF_not (m := mkF dev a []) hib he hc3
      refine k_skip ?_
      refine q_block (q_next ?_)
      refine k_region rfl ?_
      iterate 3 refine a_op ?_
      refine s_nil (r_false ?_)
      refine q_loopF (i + 1) (a_le ?_) ?_ ?_
      ·refine le_same ?_ ?_ ?_ <;> simp [-List.map_set, -List.map_replicate, -List.reduceReplicate, -List.map_map, -List.map_drop, -List.map_take, num, bol, txt, w8, w16, w32, w64, lst, cls, rowO, boxO, List.take_of_length_le, Wr.cellsL_len, wA, Wr.k_mk, Wr.n_mk, Wr.s_mk, Wr.l_mk, Wr.cellsL, Wr.z_eq, rnT, ftT, hnx]
      ·(first | omega | (simp_all <;> omega))
      ·(first | omega | (simp only []; omega))
    ·(try simp only [Bool.and_eq_true, Bool.or_eq_true, Bool.or_eq_false_iff, Bool.not_eq_true', Bool.not_eq_false', dec_t, dec_f, Bool.and_eq_false_imp, beq_iff_eq, beq_eq_false_iff_ne, ne_eq] at hc2)
     refine k_exit ?_
     refine q_seq_exit (q_loopF_exit (q_block_exit (q_next ?_)))
     refine k_seq ?_
     refine k_region rfl ?_
     have hil : i = b.length := by omega
     subst hil
     simp only [List.take_length]
     have hml := mkF_len (d := dev) b (mkF dev a [])
     have hm0 := mkF_len (d := dev) a []
     simp only [List.length_nil] at hm0
     rw [show mkF dev b (mkF dev a []) = mkM dev a b from rfl] at hml ⊢
     refine a_op ?_
     refine s_nil (r_false ?_)
     refine q_next ?_
     refine k_seq ?_
     refine k_seq ?_
     refine k_region rfl ?_
     refine a_op ?_
     refine s_nil (r_false ?_)
     refine q_next ?_
     refine k_block ?_
     refine k_loopF (fun sl L (i : Nat) => ⟨setAll (setBad sl [10, 11, 14, 15, 16, 17, 18, 19, 20, 21, 22, 23, 24, 25, 26, 27, 28, 29, 30, 31, 32, 33, 34, 35, 36, 37, 38, 39, 40, 41, 42, 43, 44, 45, 46, 47, 48, 49, 50, 51, 52, 53, 54, 55, 56, 57, 58, 59, 60, 61, 62, 63, 64, 65, 66, 67, 68, 69, 70, 71, 72, 73, 74, 75, 76, 77, 78, 79, 80, 81, 82, 83, 84, 85, 86, 87, 88, 89, 90, 91, 92, 93, 94, 95, 96, 97, 98, 99, 100, 101, 102, 103, 104, 105, 106, 107, 108, 109, 110, 111, 112, 113, 114, 115, 116, 117, 118, 119, 120, 121, 122, 123, 124, 125, 126, 127, 128, 129, 130, 131, 132, 133, 134, 135, 136, 137, 138, 139, 140, 141, 142, 143, 144, 145, 146, 147, 148, 149, 150, 151, 152]) [(9, .t (lst num (mkM dev a b))), (12, .msl (.n 9) 0 (outS dev (both a b dev) (mkM dev a b) i).length 3), (13, .t (num i))], Go.Ot.look (putL (.n 9) (rowRn (outS dev (both a b dev) (mkM dev a b) i)) L)⟩) (fun i => i ≤ (mkM dev a b).length - 1) (fun i => (mkM dev a b).length - i) (0) (a_le ?_) ?_ ?_
     ·refine le_of [] ?_ ?_ ?_ <;> simp [-List.map_set, -List.map_replicate, -List.reduceReplicate, -List.map_map, -List.map_drop, -List.map_take, num, bol, txt, w8, w16, w32, w64, lst, cls, rowO, boxO, List.take_of_length_le, Wr.cellsL_len, wA, Wr.k_mk, Wr.n_mk, Wr.s_mk, Wr.l_mk, Wr.cellsL, Wr.z_eq, rnT, ftT, rowRn, outS_0] <;> (try omega)
     ·(first | omega | simp)
     ·intro i hi
      obtain ⟨o, ho⟩ : ∃ o, outS dev (both a b dev) (mkM dev a b) i = o := ⟨_, rfl⟩
      have hol := outS_len dev (both a b dev) (mkM dev a b) i
      simp only [ho] at hol ⊢
      refine a_st ?_
      refine k_seq ?_
      refine k_seq ?_
      refine k_region rfl ?_
      iterate 5 refine a_op ?_
      refine s_nil (r_false ?_)
      refine q_next ?_
      refine a_if (fun hc4 => ?_) (fun hc4 => ?_)
      ·(try simp only [Bool.and_eq_true, Bool.or_eq_true, Bool.or_eq_false_iff, Bool.not_eq_true', Bool.not_eq_false', dec_t, dec_f, Bool.and_eq_false_imp, beq_iff_eq, beq_eq_false_iff_ne, ne_eq] at hc4)
       refine k_skip ?_
       refine q_next ?_
       refine k_seq ?_
       refine k_block ?_
       refine k_seq ?_
       refine k_region rfl ?_
       iterate 5 refine a_op ?_
       obtain ⟨x0, hx0⟩ : ∃ x, (mkM dev a b).getD i 0 = x := ⟨_, rfl⟩
       obtain ⟨x1, hx1⟩ : ∃ x, (mkM dev a b).getD (i + 1) 0 = x := ⟨_, rfl⟩
       simp only [hx0]
       have hx1' := hx1
       rw [show i + 1 = ((i : Int) + 1).toNat from by omega] at hx1'
       have b0 := mk_get pa pb (d := dev) (i := i) (by omega)
       have b1 := mk_get pa pb (d := dev) (i := i + 1) (by omega)
       rw [hx0] at b0
       rw [hx1] at b1
       iterate 3 refine a_op ?_
       refine s_nil (r_false ?_)
       refine q_next ?_
       refine k_seq ?_
       refine k_region rfl ?_
       rcases hx : hasB a dev x0 with _ | _ <;> rcases hy : hasB b dev x0 with _ | _
       ·have hp : both a b dev x0 = false := by rw [both, hx, hy]; rfl
        refine a_opd ?_
        refine a_opd ?_
        refine a_calld [] false (by have h := hasR_good Γ a dev x0 (by omega); rw [hx] at h; exact h) ?_
        refine a_opd ?_
        refine a_opd ?_
        refine a_calld [] false (by have h := hasR_good Γ b dev x0 (by omega); rw [hy] at h; exact h) ?_
        refine a_opd ?_
        refine a_opd ?_
        refine s_nil (r_true (by kernel_rfl) ?_)
        refine q_next ?_
        refine k_block ?_
        refine k_seq ?_
        refine k_region rfl ?_
        refine a_op ?_
        refine a_op ?_
        refine a_no ?_
        refine a_no ?_
        refine a_no ?_
        refine a_no ?_
        refine a_no ?_
        refine a_op ?_
        refine a_op ?_
        refine a_go ?_
        refine a_go ?_
        refine a_go ?_
        refine a_go ?_
        refine a_go ?_
        refine a_go ?_
        refine a_op ?_
        refine a_op ?_
        refine s_nil (r_false ?_)
        refine q_next ?_
        refine a_true ?_
        refine k_exit ?_
        refine q_block_pass (by decide) (q_block_exit (q_next ?_))
        refine k_region rfl ?_
        iterate 3 refine a_op ?_
        refine s_nil (r_false ?_)
        have hnx := outS_s dev (both a b dev) (mkM dev a b) i
        rw [ho, hx0, hx1, stepO_no hp] at hnx
        refine q_loopF (i + 1) (a_le ?_) ?_ ?_
        ·refine le_of [(.n 9, .n 9)] ?_ ?_ ?_ <;> simp [-List.map_set, -List.map_replicate, -List.reduceReplicate, -List.map_map, -List.map_drop, -List.map_take, num, bol, txt, w8, w16, w32, w64, lst, cls, rowO, boxO, List.take_of_length_le, Wr.cellsL_len, wA, Wr.k_mk, Wr.n_mk, Wr.s_mk, Wr.l_mk, Wr.cellsL, Wr.z_eq, rnT, ftT, rowRn, hnx] <;> (try omega)
        ·(first | omega | (simp_all <;> omega))
        ·(first | omega | (simp only []; omega))
       ·have hp : both a b dev x0 = true := by rw [both, hx, hy]; rfl
        refine a_opd ?_
        refine a_opd ?_
        refine a_calld [] false (by have h := hasR_good Γ a dev x0 (by omega); rw [hx] at h; exact h) ?_
        refine a_opd ?_
        refine a_opd ?_
        refine a_calld [] false (by have h := hasR_good Γ b dev x0 (by omega); rw [hy] at h; exact h) ?_
        refine a_opd ?_
        refine a_opd ?_
        refine s_nil (r_true (by kernel_rfl) ?_)
        refine q_next ?_
        refine k_block ?_
        refine k_seq ?_
        refine k_region rfl ?_
        refine a_op ?_
        refine a_op ?_
        refine a_no ?_
        refine a_no ?_
        refine a_no ?_
        refine a_no ?_
        refine a_no ?_
        refine a_op ?_
        refine a_op ?_
        refine a_go ?_
        refine a_go ?_
        refine a_go ?_
        refine a_go ?_
        refine a_go ?_
        refine a_go ?_
        refine a_op ?_
        refine a_op ?_
        refine s_nil (r_false ?_)
        refine q_next ?_
        refine a_false ?_
        refine k_seq ?_
        refine k_region rfl ?_
        have ho3 : o = [] ∨ (∃ k, o.length = k + 1 ∧ (o.getD k default).to = x0 - 1) ∨ (∃ k, o.length = k + 1 ∧ (o.getD k default).to ≠ x0 - 1) := by
         cases hq : o with
         | nil => exact .inl rfl
         | cons q t =>
          right
          rcases (show ((q :: t).getD t.length default).to = x0 - 1 ∨ ((q :: t).getD t.length default).to ≠ x0 - 1 by omega) with h | h
          ·exact .inl ⟨t.length, rfl, h⟩
          ·exact .inr ⟨t.length, rfl, h⟩
        rcases ho3 with ho1 | ⟨k, hk, hto⟩ | ⟨k, hk, hto⟩
        ·subst ho1
         have hst : stepO dev (both a b dev) [] x0 x1 = [] ++ [⟨dev, x0, x1 - 1⟩] := stepO_app hp (fun h => by have := h.1; simp at this)
         iterate 4 refine a_opd ?_
         refine a_nod ?_
         refine a_nod ?_
         refine a_nod ?_
         refine a_nod ?_
         refine a_nod ?_
         refine a_nod ?_
         refine a_nod ?_
         
         refine a_nod ?_
         refine a_nod ?_
         refine a_nod ?_
         refine a_nod ?_
         
         refine a_nod ?_
         refine a_nod ?_
         refine a_opd ?_
         refine a_opd ?_
         refine s_nil (r_true (by kernel_rfl) ?_)
         refine q_next ?_
         refine a_false ?_
         refine g_start (.n 9) [12, 90, 123] [] rfl ?_
         refine g_op ?_
         refine g_op ?_
         refine g_op ?_
         refine g_op ?_
         refine g_op ?_
         refine g_op ?_
         simp only [hx0]
         refine g_op ?_
         refine g_op ?_
         refine g_op ?_
         refine g_op ?_
         refine g_op ?_
         first | simp only [hx1] | simp only [hx1']
         refine g_op ?_
         refine g_op ?_
         refine g_op ?_
         refine g_op ?_
         refine g_op ?_
         refine g_nil ⟨g_ok (by kernel_rfl) (by kernel_rfl), ?_⟩
         refine q_block (q_block (q_next ?_))
         refine k_region rfl ?_
         iterate 3 refine a_op ?_
         refine s_nil (r_false ?_)
         have hnx := outS_s dev (both a b dev) (mkM dev a b) i
         rw [ho, hx0, hx1, hst] at hnx
         refine q_loopF (i + 1) (a_le ?_) ?_ ?_
         ·refine le_of [(.n 9, .n 9)] ?_ ?_ ?_ <;> simp [-List.map_set, -List.map_replicate, -List.reduceReplicate, -List.map_map, -List.map_drop, -List.map_take, num, bol, txt, w8, w16, w32, w64, lst, cls, rowO, boxO, List.take_of_length_le, Wr.cellsL_len, wA, Wr.k_mk, Wr.n_mk, Wr.s_mk, Wr.l_mk, Wr.cellsL, Wr.z_eq, rnT, ftT, rowRn, hnx, List.flatMap_append, rnT, List.map_append] <;> (try omega)
         ·(first | omega | (simp_all <;> omega))
         ·(first | omega | (simp only []; omega))
        ·have hkl : k < o.length := by omega
         obtain ⟨e, hoe⟩ : ∃ e, o.getD k default = e := ⟨_, rfl⟩
         have hoe0 := hoe
         have hst : stepO dev (both a b dev) o x0 x1 = o.set k ⟨e.dev, e.fr, x1 - 1⟩ := by have h := stepO_set (d := dev) (o := o) (a := x0) (b := x1) hp (by omega) (by rw [show o.length - 1 = k from by omega]; exact hto); rwa [show o.length - 1 = k from by omega, hoe] at h
         have hset := rn_set2 (x := x1 - 1) hkl
         rw [hoe] at hset hto
         simp only [num] at hset
         simp only [hk]
         iterate 4 refine a_opd ?_
         refine a_god ?_
         refine a_god ?_
         refine a_god ?_
         refine a_god (hs := by (simp (disch := first | omega | (simp only [List.length_drop, List.length_take, List.length_map, List.length_append, List.length_cons, List.length_nil, List.length_replicate, List.length_set] <;> omega) | (simp only [push_cast] <;> omega) | fail) only [push_cast, reduceCtorEq, Nat.reduceAdd, Nat.reduceSub, Nat.reduceMul, Nat.reduceEqDiff, Nat.reduceLT, Nat.reduceLeDiff, Nat.reduceMod, Nat.reduceDiv, Int.reduceLE, Int.reduceLT, Int.reduceEq, Int.reduceToNat, Int.reduceAdd, Int.reduceSub, Int.reduceMul, Int.reduceNeg, show ((k : Int) + 1 - 1) = k from by omega] <;> rfl)) ?_
         refine a_god ?_
         refine a_god ?_
         refine a_god ?_
         try simp only [hoe]
         refine a_god ?_
         refine a_god ?_
         refine a_god ?_
         refine a_god ?_
         try simp only [hx0]
         refine a_god ?_
         refine a_god ?_
         refine a_opd ?_
         refine a_opd ?_
         refine s_nil (r_true (by kernel_rfl) ?_)
         refine q_next ?_
         refine a_true ?_
         refine k_region rfl ?_
         iterate 3 refine a_op ?_
         refine a_op (hs := by (simp (disch := first | omega | (simp only [List.length_drop, List.length_take, List.length_map, List.length_append, List.length_cons, List.length_nil, List.length_replicate, List.length_set] <;> omega) | (simp only [push_cast] <;> omega) | fail) only [push_cast, reduceCtorEq, Nat.reduceAdd, Nat.reduceSub, Nat.reduceMul, Nat.reduceEqDiff, Nat.reduceLT, Nat.reduceLeDiff, Nat.reduceMod, Nat.reduceDiv, Int.reduceLE, Int.reduceLT, Int.reduceEq, Int.reduceToNat, Int.reduceAdd, Int.reduceSub, Int.reduceMul, Int.reduceNeg, show ((k : Int) + 1 - 1) = k from by omega] <;> rfl)) ?_
         iterate 5 refine a_op ?_
         first | simp only [hx1] | simp only [hx1']
         iterate 4 refine a_op ?_
         refine s_nil (r_false ?_)
         refine q_block (q_block (q_next ?_))
         refine k_region rfl ?_
         iterate 3 refine a_op ?_
         refine s_nil (r_false ?_)
         have hnx := outS_s dev (both a b dev) (mkM dev a b) i
         rw [ho, hx0, hx1, hst] at hnx
         refine q_loopF (i + 1) (a_le ?_) ?_ ?_
         ·refine le_of [(.n 9, .n 9)] ?_ ?_ ?_ <;> simp [-List.map_set, -List.map_replicate, -List.reduceReplicate, -List.map_map, -List.map_drop, -List.map_take, num, bol, txt, w8, w16, w32, w64, lst, cls, rowO, boxO, List.take_of_length_le, Wr.cellsL_len, wA, Wr.k_mk, Wr.n_mk, Wr.s_mk, Wr.l_mk, Wr.cellsL, Wr.z_eq, rnT, ftT, rowRn, hnx, hset, List.length_set] <;> (try omega)
         ·(first | omega | (simp_all <;> omega))
         ·(first | omega | (simp only []; omega))
        ·have hkl : k < o.length := by omega
         obtain ⟨e, hoe⟩ : ∃ e, o.getD k default = e := ⟨_, rfl⟩
         have hoe0 := hoe
         have hst : stepO dev (both a b dev) o x0 x1 = o ++ [⟨dev, x0, x1 - 1⟩] := stepO_app hp (fun h => hto (by have := h.2; rwa [show o.length - 1 = k from by omega] at this))
         rw [hoe] at hto
         simp only [hk]
         iterate 4 refine a_opd ?_
         refine a_god ?_
         refine a_god ?_
         refine a_god ?_
         refine a_god (hs := by (simp (disch := first | omega | (simp only [List.length_drop, List.length_take, List.length_map, List.length_append, List.length_cons, List.length_nil, List.length_replicate, List.length_set] <;> omega) | (simp only [push_cast] <;> omega) | fail) only [push_cast, reduceCtorEq, Nat.reduceAdd, Nat.reduceSub, Nat.reduceMul, Nat.reduceEqDiff, Nat.reduceLT, Nat.reduceLeDiff, Nat.reduceMod, Nat.reduceDiv, Int.reduceLE, Int.reduceLT, Int.reduceEq, Int.reduceToNat, Int.reduceAdd, Int.reduceSub, Int.reduceMul, Int.reduceNeg, show ((k : Int) + 1 - 1) = k from by omega] <;> rfl)) ?_
         refine a_god ?_
         refine a_god ?_
         refine a_god ?_
         try simp only [hoe]
         refine a_god ?_
         refine a_god ?_
         refine a_god ?_
         refine a_god ?_
         try simp only [hx0]
         refine a_god ?_
         refine a_god ?_
         refine a_opd ?_
         refine a_opd ?_
         refine s_nil (r_true (by kernel_rfl) ?_)
         refine q_next ?_
         refine a_false ?_
         refine g_start (.n 9) [12, 90, 123, 127, 128, 131, 132] [] rfl ?_
         refine g_op ?_
         refine g_op ?_
         refine g_op ?_
         refine g_op ?_
         refine g_op ?_
         refine g_op ?_
         simp only [hx0]
         refine g_op ?_
         refine g_op ?_
         refine g_op ?_
         refine g_op ?_
         refine g_op ?_
         first | simp only [hx1] | simp only [hx1']
         refine g_op ?_
         refine g_op ?_
         refine g_op ?_
         refine g_op ?_
         refine g_op ?_
         refine g_nil ⟨g_ok (by kernel_rfl) (by kernel_rfl), ?_⟩
         refine q_block (q_block (q_next ?_))
         refine k_region rfl ?_
         iterate 3 refine a_op ?_
         refine s_nil (r_false ?_)
         have hnx := outS_s dev (both a b dev) (mkM dev a b) i
         rw [ho, hx0, hx1, hst] at hnx
         refine q_loopF (i + 1) (a_le ?_) ?_ ?_
         ·refine le_of [(.n 9, .n 9)] ?_ ?_ ?_ <;> simp [-List.map_set, -List.map_replicate, -List.reduceReplicate, -List.map_map, -List.map_drop, -List.map_take, num, bol, txt, w8, w16, w32, w64, lst, cls, rowO, boxO, List.take_of_length_le, Wr.cellsL_len, wA, Wr.k_mk, Wr.n_mk, Wr.s_mk, Wr.l_mk, Wr.cellsL, Wr.z_eq, rnT, ftT, rowRn, hnx, List.flatMap_append, rnT, List.map_append] <;> (try omega)
         ·(first | omega | (simp_all <;> omega))
         ·(first | omega | (simp only []; omega))
       ·have hp : both a b dev x0 = true := by rw [both, hx, hy]; rfl
        refine a_opd ?_
        refine a_opd ?_
        refine a_calld [] false (by have h := hasR_good Γ a dev x0 (by omega); rw [hx] at h; exact h) ?_
        refine a_opd ?_
        refine a_opd ?_
        refine a_calld [] false (by have h := hasR_good Γ b dev x0 (by omega); rw [hy] at h; exact h) ?_
        refine a_opd ?_
        refine a_opd ?_
        refine s_nil (r_true (by kernel_rfl) ?_)
        refine q_next ?_
        refine k_block ?_
        refine k_seq ?_
        refine k_region rfl ?_
        refine a_op ?_
        refine a_op ?_
        refine a_no ?_
        refine a_no ?_
        refine a_no ?_
        refine a_no ?_
        refine a_no ?_
        refine a_op ?_
        refine a_op ?_
        refine a_go ?_
        refine a_go ?_
        refine a_go ?_
        refine a_no ?_
        refine a_no ?_
        refine a_go ?_
        refine a_op ?_
        refine a_op ?_
        refine s_nil (r_false ?_)
        refine q_next ?_
        refine a_false ?_
        refine k_seq ?_
        refine k_region rfl ?_
        have ho3 : o = [] ∨ (∃ k, o.length = k + 1 ∧ (o.getD k default).to = x0 - 1) ∨ (∃ k, o.length = k + 1 ∧ (o.getD k default).to ≠ x0 - 1) := by
         cases hq : o with
         | nil => exact .inl rfl
         | cons q t =>
          right
          rcases (show ((q :: t).getD t.length default).to = x0 - 1 ∨ ((q :: t).getD t.length default).to ≠ x0 - 1 by omega) with h | h
          ·exact .inl ⟨t.length, rfl, h⟩
          ·exact .inr ⟨t.length, rfl, h⟩
        rcases ho3 with ho1 | ⟨k, hk, hto⟩ | ⟨k, hk, hto⟩
        ·subst ho1
         have hst : stepO dev (both a b dev) [] x0 x1 = [] ++ [⟨dev, x0, x1 - 1⟩] := stepO_app hp (fun h => by have := h.1; simp at this)
         iterate 4 refine a_opd ?_
         refine a_nod ?_
         refine a_nod ?_
         refine a_nod ?_
         refine a_nod ?_
         refine a_nod ?_
         refine a_nod ?_
         refine a_nod ?_
         
         refine a_nod ?_
         refine a_nod ?_
         refine a_nod ?_
         refine a_nod ?_
         
         refine a_nod ?_
         refine a_nod ?_
         refine a_opd ?_
         refine a_opd ?_
         refine s_nil (r_true (by kernel_rfl) ?_)
         refine q_next ?_
         refine a_false ?_
         refine g_start (.n 9) [12, 90, 123] [] rfl ?_
         refine g_op ?_
         refine g_op ?_
         refine g_op ?_
         refine g_op ?_
         refine g_op ?_
         refine g_op ?_
         simp only [hx0]
         refine g_op ?_
         refine g_op ?_
         refine g_op ?_
         refine g_op ?_
         refine g_op ?_
         first | simp only [hx1] | simp only [hx1']
         refine g_op ?_
         refine g_op ?_
         refine g_op ?_
         refine g_op ?_
         refine g_op ?_
         refine g_nil ⟨g_ok (by kernel_rfl) (by kernel_rfl), ?_⟩
         refine q_block (q_block (q_next ?_))
         refine k_region rfl ?_
         iterate 3 refine a_op ?_
         refine s_nil (r_false ?_)
         have hnx := outS_s dev (both a b dev) (mkM dev a b) i
         rw [ho, hx0, hx1, hst] at hnx
         refine q_loopF (i + 1) (a_le ?_) ?_ ?_
         ·refine le_of [(.n 9, .n 9)] ?_ ?_ ?_ <;> simp [-List.map_set, -List.map_replicate, -List.reduceReplicate, -List.map_map, -List.map_drop, -List.map_take, num, bol, txt, w8, w16, w32, w64, lst, cls, rowO, boxO, List.take_of_length_le, Wr.cellsL_len, wA, Wr.k_mk, Wr.n_mk, Wr.s_mk, Wr.l_mk, Wr.cellsL, Wr.z_eq, rnT, ftT, rowRn, hnx, List.flatMap_append, rnT, List.map_append] <;> (try omega)
         ·(first | omega | (simp_all <;> omega))
         ·(first | omega | (simp only []; omega))
        ·have hkl : k < o.length := by omega
         obtain ⟨e, hoe⟩ : ∃ e, o.getD k default = e := ⟨_, rfl⟩
         have hoe0 := hoe
         have hst : stepO dev (both a b dev) o x0 x1 = o.set k ⟨e.dev, e.fr, x1 - 1⟩ := by have h := stepO_set (d := dev) (o := o) (a := x0) (b := x1) hp (by omega) (by rw [show o.length - 1 = k from by omega]; exact hto); rwa [show o.length - 1 = k from by omega, hoe] at h
         have hset := rn_set2 (x := x1 - 1) hkl
         rw [hoe] at hset hto
         simp only [num] at hset
         simp only [hk]
         iterate 4 refine a_opd ?_
         refine a_god ?_
         refine a_god ?_
         refine a_god ?_
         refine a_god (hs := by (simp (disch := first | omega | (simp only [List.length_drop, List.length_take, List.length_map, List.length_append, List.length_cons, List.length_nil, List.length_replicate, List.length_set] <;> omega) | (simp only [push_cast] <;> omega) | fail) only [push_cast, reduceCtorEq, Nat.reduceAdd, Nat.reduceSub, Nat.reduceMul, Nat.reduceEqDiff, Nat.reduceLT, Nat.reduceLeDiff, Nat.reduceMod, Nat.reduceDiv, Int.reduceLE, Int.reduceLT, Int.reduceEq, Int.reduceToNat, Int.reduceAdd, Int.reduceSub, Int.reduceMul, Int.reduceNeg, show ((k : Int) + 1 - 1) = k from by omega] <;> rfl)) ?_
         refine a_god ?_
         refine a_god ?_
         refine a_god ?_
         try simp only [hoe]
         refine a_god ?_
         refine a_god ?_
         refine a_god ?_
         refine a_god ?_
         try simp only [hx0]
         refine a_god ?_
         refine a_god ?_
         refine a_opd ?_
         refine a_opd ?_
         refine s_nil (r_true (by kernel_rfl) ?_)
         refine q_next ?_
         refine a_true ?_
         refine k_region rfl ?_
         iterate 3 refine a_op ?_
         refine a_op (hs := by (simp (disch := first | omega | (simp only [List.length_drop, List.length_take, List.length_map, List.length_append, List.length_cons, List.length_nil, List.length_replicate, List.length_set] <;> omega) | (simp only [push_cast] <;> omega) | fail) only [push_cast, reduceCtorEq, Nat.reduceAdd, Nat.reduceSub, Nat.reduceMul, Nat.reduceEqDiff, Nat.reduceLT, Nat.reduceLeDiff, Nat.reduceMod, Nat.reduceDiv, Int.reduceLE, Int.reduceLT, Int.reduceEq, Int.reduceToNat, Int.reduceAdd, Int.reduceSub, Int.reduceMul, Int.reduceNeg, show ((k : Int) + 1 - 1) = k from by omega] <;> rfl)) ?_
         iterate 5 refine a_op ?_
         first | simp only [hx1] | simp only [hx1']
         iterate 4 refine a_op ?_
         refine s_nil (r_false ?_)
         refine q_block (q_block (q_next ?_))
         refine k_region rfl ?_
         iterate 3 refine a_op ?_
         refine s_nil (r_false ?_)
         have hnx := outS_s dev (both a b dev) (mkM dev a b) i
         rw [ho, hx0, hx1, hst] at hnx
         refine q_loopF (i + 1) (a_le ?_) ?_ ?_
         ·refine le_of [(.n 9, .n 9)] ?_ ?_ ?_ <;> simp [-List.map_set, -List.map_replicate, -List.reduceReplicate, -List.map_map, -List.map_drop, -List.map_take, num, bol, txt, w8, w16, w32, w64, lst, cls, rowO, boxO, List.take_of_length_le, Wr.cellsL_len, wA, Wr.k_mk, Wr.n_mk, Wr.s_mk, Wr.l_mk, Wr.cellsL, Wr.z_eq, rnT, ftT, rowRn, hnx, hset, List.length_set] <;> (try omega)
         ·(first | omega | (simp_all <;> omega))
         ·(first | omega | (simp only []; omega))
        ·have hkl : k < o.length := by omega
         obtain ⟨e, hoe⟩ : ∃ e, o.getD k default = e := ⟨_, rfl⟩
         have hoe0 := hoe
         have hst : stepO dev (both a b dev) o x0 x1 = o ++ [⟨dev, x0, x1 - 1⟩] := stepO_app hp (fun h => hto (by have := h.2; rwa [show o.length - 1 = k from by omega] at this))
         rw [hoe] at hto
         simp only [hk]
         iterate 4 refine a_opd ?_
         refine a_god ?_
         refine a_god ?_
         refine a_god ?_
         refine a_god (hs := by (simp (disch := first | omega | (simp only [List.length_drop, List.length_take, List.length_map, List.length_append, List.length_cons, List.length_nil, List.length_replicate, List.length_set] <;> omega) | (simp only [push_cast] <;> omega) | fail) only [push_cast, reduceCtorEq, Nat.reduceAdd, Nat.reduceSub, Nat.reduceMul, Nat.reduceEqDiff, Nat.reduceLT, Nat.reduceLeDiff, Nat.reduceMod, Nat.reduceDiv, Int.reduceLE, Int.reduceLT, Int.reduceEq, Int.reduceToNat, Int.reduceAdd, Int.reduceSub, Int.reduceMul, Int.reduceNeg, show ((k : Int) + 1 - 1) = k from by omega] <;> rfl)) ?_
         refine a_god ?_
         refine a_god ?_
         refine a_god ?_
         try simp only [hoe]
         refine a_god ?_
         refine a_god ?_
         refine a_god ?_
         refine a_god ?_
         try simp only [hx0]
         refine a_god ?_
         refine a_god ?_
         refine a_opd ?_
         refine a_opd ?_
         refine s_nil (r_true (by kernel_rfl) ?_)
         refine q_next ?_
         refine a_false ?_
         refine g_start (.n 9) [12, 90, 123, 127, 128, 131, 132] [] rfl ?_
         refine g_op ?_
         refine g_op ?_
         refine g_op ?_
         refine g_op ?_
         refine g_op ?_
         refine g_op ?_
         simp only [hx0]
         refine g_op ?_
         refine g_op ?_
         refine g_op ?_
         refine g_op ?_
         refine g_op ?_
         first | simp only [hx1] | simp only [hx1']
         refine g_op ?_
         refine g_op ?_
         refine g_op ?_
         refine g_op ?_
         refine g_op ?_
         refine g_nil ⟨g_ok (by kernel_rfl) (by kernel_rfl), ?_⟩
         refine q_block (q_block (q_next ?_))
         refine k_region rfl ?_
         iterate 3 refine a_op ?_
         refine s_nil (r_false ?_)
         have hnx := outS_s dev (both a b dev) (mkM dev a b) i
         rw [ho, hx0, hx1, hst] at hnx
         refine q_loopF (i + 1) (a_le ?_) ?_ ?_
         ·refine le_of [(.n 9, .n 9)] ?_ ?_ ?_ <;> simp [-List.map_set, -List.map_replicate, -List.reduceReplicate, -List.map_map, -List.map_drop, -List.map_take, num, bol, txt, w8, w16, w32, w64, lst, cls, rowO, boxO, List.take_of_length_le, Wr.cellsL_len, wA, Wr.k_mk, Wr.n_mk, Wr.s_mk, Wr.l_mk, Wr.cellsL, Wr.z_eq, rnT, ftT, rowRn, hnx, List.flatMap_append, rnT, List.map_append] <;> (try omega)
         ·(first | omega | (simp_all <;> omega))
         ·(first | omega | (simp only []; omega))
       ·have hp : both a b dev x0 = true := by rw [both, hx, hy]; rfl
        refine a_opd ?_
        refine a_opd ?_
        refine a_calld [] false (by have h := hasR_good Γ a dev x0 (by omega); rw [hx] at h; exact h) ?_
        refine a_opd ?_
        refine a_opd ?_
        refine a_calld [] false (by have h := hasR_good Γ b dev x0 (by omega); rw [hy] at h; exact h) ?_
        refine a_opd ?_
        refine a_opd ?_
        refine s_nil (r_true (by kernel_rfl) ?_)
        refine q_next ?_
        refine k_block ?_
        refine k_seq ?_
        refine k_region rfl ?_
        refine a_op ?_
        refine a_op ?_
        refine a_no ?_
        refine a_no ?_
        refine a_no ?_
        refine a_no ?_
        refine a_no ?_
        refine a_op ?_
        refine a_op ?_
        refine a_go ?_
        refine a_go ?_
        refine a_go ?_
        refine a_no ?_
        refine a_no ?_
        refine a_go ?_
        refine a_op ?_
        refine a_op ?_
        refine s_nil (r_false ?_)
        refine q_next ?_
        refine a_false ?_
        refine k_seq ?_
        refine k_region rfl ?_
        have ho3 : o = [] ∨ (∃ k, o.length = k + 1 ∧ (o.getD k default).to = x0 - 1) ∨ (∃ k, o.length = k + 1 ∧ (o.getD k default).to ≠ x0 - 1) := by
         cases hq : o with
         | nil => exact .inl rfl
         | cons q t =>
          right
          rcases (show ((q :: t).getD t.length default).to = x0 - 1 ∨ ((q :: t).getD t.length default).to ≠ x0 - 1 by omega) with h | h
          ·exact .inl ⟨t.length, rfl, h⟩
          ·exact .inr ⟨t.length, rfl, h⟩
        rcases ho3 with ho1 | ⟨k, hk, hto⟩ | ⟨k, hk, hto⟩
        ·subst ho1
         have hst : stepO dev (both a b dev) [] x0 x1 = [] ++ [⟨dev, x0, x1 - 1⟩] := stepO_app hp (fun h => by have := h.1; simp at this)
         iterate 4 refine a_opd ?_
         refine a_nod ?_
         refine a_nod ?_
         refine a_nod ?_
         refine a_nod ?_
         refine a_nod ?_
         refine a_nod ?_
         refine a_nod ?_
         
         refine a_nod ?_
         refine a_nod ?_
         refine a_nod ?_
         refine a_nod ?_
         
         refine a_nod ?_
         refine a_nod ?_
         refine a_opd ?_
         refine a_opd ?_
         refine s_nil (r_true (by kernel_rfl) ?_)
         refine q_next ?_
         refine a_false ?_
         refine g_start (.n 9) [12, 90, 123] [] rfl ?_
         refine g_op ?_
         refine g_op ?_
         refine g_op ?_
         refine g_op ?_
         refine g_op ?_
         refine g_op ?_
         simp only [hx0]
         refine g_op ?_
         refine g_op ?_
         refine g_op ?_
         refine g_op ?_
         refine g_op ?_
         first | simp only [hx1] | simp only [hx1']
         refine g_op ?_
         refine g_op ?_
         refine g_op ?_
         refine g_op ?_
         refine g_op ?_
         refine g_nil ⟨g_ok (by kernel_rfl) (by kernel_rfl), ?_⟩
         refine q_block (q_block (q_next ?_))
         refine k_region rfl ?_
         iterate 3 refine a_op ?_
         refine s_nil (r_false ?_)
         have hnx := outS_s dev (both a b dev) (mkM dev a b) i
         rw [ho, hx0, hx1, hst] at hnx
         refine q_loopF (i + 1) (a_le ?_) ?_ ?_
         ·refine le_of [(.n 9, .n 9)] ?_ ?_ ?_ <;> simp [-List.map_set, -List.map_replicate, -List.reduceReplicate, -List.map_map, -List.map_drop, -List.map_take, num, bol, txt, w8, w16, w32, w64, lst, cls, rowO, boxO, List.take_of_length_le, Wr.cellsL_len, wA, Wr.k_mk, Wr.n_mk, Wr.s_mk, Wr.l_mk, Wr.cellsL, Wr.z_eq, rnT, ftT, rowRn, hnx, List.flatMap_append, rnT, List.map_append] <;> (try omega)
         ·(first | omega | (simp_all <;> omega))
         ·(first | omega | (simp only []; omega))
        ·have hkl : k < o.length := by omega
         obtain ⟨e, hoe⟩ : ∃ e, o.getD k default = e := ⟨_, rfl⟩
         have hoe0 := hoe
         have hst : stepO dev (both a b dev) o x0 x1 = o.set k ⟨e.dev, e.fr, x1 - 1⟩ := by have h := stepO_set (d := dev) (o := o) (a := x0) (b := x1) hp (by omega) (by rw [show o.length - 1 = k from by omega]; exact hto); rwa [show o.length - 1 = k from by omega, hoe] at h
         have hset := rn_set2 (x := x1 - 1) hkl
         rw [hoe] at hset hto
         simp only [num] at hset
         simp only [hk]
         iterate 4 refine a_opd ?_
         refine a_god ?_
         refine a_god ?_
         refine a_god ?_
         refine a_god (hs := by (simp (disch := first | omega | (simp only [List.length_drop, List.length_take, List.length_map, List.length_append, List.length_cons, List.length_nil, List.length_replicate, List.length_set] <;> omega) | (simp only [push_cast] <;> omega) | fail) only [push_cast, reduceCtorEq, Nat.reduceAdd, Nat.reduceSub, Nat.reduceMul, Nat.reduceEqDiff, Nat.reduceLT, Nat.reduceLeDiff, Nat.reduceMod, Nat.reduceDiv, Int.reduceLE, Int.reduceLT, Int.reduceEq, Int.reduceToNat, Int.reduceAdd, Int.reduceSub, Int.reduceMul, Int.reduceNeg, show ((k : Int) + 1 - 1) = k from by omega] <;> rfl)) ?_
         refine a_god ?_
         refine a_god ?_
         refine a_god ?_
         try simp only [hoe]
         refine a_god ?_
         refine a_god ?_
         refine a_god ?_
         refine a_god ?_
         try simp only [hx0]
         refine a_god ?_
         refine a_god ?_
         refine a_opd ?_
         refine a_opd ?_
         refine s_nil (r_true (by kernel_rfl) ?_)
         refine q_next ?_
         refine a_true ?_
         refine k_region rfl ?_
         iterate 3 refine a_op ?_
         refine a_op (hs := by (simp (disch := first | omega | (simp only [List.length_drop, List.length_take, List.length_map, List.length_append, List.length_cons, List.length_nil, List.length_replicate, List.length_set] <;> omega) | (simp only [push_cast] <;> omega) | fail) only [push_cast, reduceCtorEq, Nat.reduceAdd, Nat.reduceSub, Nat.reduceMul, Nat.reduceEqDiff, Nat.reduceLT, Nat.reduceLeDiff, Nat.reduceMod, Nat.reduceDiv, Int.reduceLE, Int.reduceLT, Int.reduceEq, Int.reduceToNat, Int.reduceAdd, Int.reduceSub, Int.reduceMul, Int.reduceNeg, show ((k : Int) + 1 - 1) = k from by omega] <;> rfl)) ?_
         iterate 5 refine a_op ?_
         first | simp only [hx1] | simp only [hx1']
         iterate 4 refine a_op ?_
         refine s_nil (r_false ?_)
         refine q_block (q_block (q_next ?_))
         refine k_region rfl ?_
         iterate 3 refine a_op ?_
         refine s_nil (r_false ?_)
         have hnx := outS_s dev (both a b dev) (mkM dev a b) i
         rw [ho, hx0, hx1, hst] at hnx
         refine q_loopF (i + 1) (a_le ?_) ?_ ?_
         ·refine le_of [(.n 9, .n 9)] ?_ ?_ ?_ <;> simp [-List.map_set, -List.map_replicate, -List.reduceReplicate, -List.map_map, -List.map_drop, -List.map_take, num, bol, txt, w8, w16, w32, w64, lst, cls, rowO, boxO, List.take_of_length_le, Wr.cellsL_len, wA, Wr.k_mk, Wr.n_mk, Wr.s_mk, Wr.l_mk, Wr.cellsL, Wr.z_eq, rnT, ftT, rowRn, hnx, hset, List.length_set] <;> (try omega)
         ·(first | omega | (simp_all <;> omega))
         ·(first | omega | (simp only []; omega))
        ·have hkl : k < o.length := by omega
         obtain ⟨e, hoe⟩ : ∃ e, o.getD k default = e := ⟨_, rfl⟩
         have hoe0 := hoe
         have hst : stepO dev (both a b dev) o x0 x1 = o ++ [⟨dev, x0, x1 - 1⟩] := stepO_app hp (fun h => hto (by have := h.2; rwa [show o.length - 1 = k from by omega] at this))
         rw [hoe] at hto
         simp only [hk]
         iterate 4 refine a_opd ?_
         refine a_god ?_
         refine a_god ?_
         refine a_god ?_
         refine a_god (hs := by (simp (disch := first | omega | (simp only [List.length_drop, List.length_take, List.length_map, List.length_append, List.length_cons, List.length_nil, List.length_replicate, List.length_set] <;> omega) | (simp only [push_cast] <;> omega) | fail) only [push_cast, reduceCtorEq, Nat.reduceAdd, Nat.reduceSub, Nat.reduceMul, Nat.reduceEqDiff, Nat.reduceLT, Nat.reduceLeDiff, Nat.reduceMod, Nat.reduceDiv, Int.reduceLE, Int.reduceLT, Int.reduceEq, Int.reduceToNat, Int.reduceAdd, Int.reduceSub, Int.reduceMul, Int.reduceNeg, show ((k : Int) + 1 - 1) = k from by omega] <;> rfl)) ?_
         refine a_god ?_
         refine a_god ?_
         refine a_god ?_
         try simp only [hoe]
         refine a_god ?_
         refine a_god ?_
         refine a_god ?_
         refine a_god ?_
         try simp only [hx0]
         refine a_god ?_
         refine a_god ?_
         refine a_opd ?_
         refine a_opd ?_
         refine s_nil (r_true (by kernel_rfl) ?_)
         refine q_next ?_
         refine a_false ?_
         refine g_start (.n 9) [12, 90, 123, 127, 128, 131, 132] [] rfl ?_
         refine g_op ?_
         refine g_op ?_
         refine g_op ?_
         refine g_op ?_
         refine g_op ?_
         refine g_op ?_
         simp only [hx0]
         refine g_op ?_
         refine g_op ?_
         refine g_op ?_
         refine g_op ?_
         refine g_op ?_
         first | simp only [hx1] | simp only [hx1']
         refine g_op ?_
         refine g_op ?_
         refine g_op ?_
         refine g_op ?_
         refine g_op ?_
         refine g_nil ⟨g_ok (by kernel_rfl) (by kernel_rfl), ?_⟩
         refine q_block (q_block (q_next ?_))
         refine k_region rfl ?_
         iterate 3 refine a_op ?_
         refine s_nil (r_false ?_)
         have hnx := outS_s dev (both a b dev) (mkM dev a b) i
         rw [ho, hx0, hx1, hst] at hnx
         refine q_loopF (i + 1) (a_le ?_) ?_ ?_
         ·refine le_of [(.n 9, .n 9)] ?_ ?_ ?_ <;> simp [-List.map_set, -List.map_replicate, -List.reduceReplicate, -List.map_map, -List.map_drop, -List.map_take, num, bol, txt, w8, w16, w32, w64, lst, cls, rowO, boxO, List.take_of_length_le, Wr.cellsL_len, wA, Wr.k_mk, Wr.n_mk, Wr.s_mk, Wr.l_mk, Wr.cellsL, Wr.z_eq, rnT, ftT, rowRn, hnx, List.flatMap_append, rnT, List.map_append] <;> (try omega)
         ·(first | omega | (simp_all <;> omega))
         ·(first | omega | (simp only []; omega))
      ·(try simp only [Bool.and_eq_true, Bool.or_eq_true, Bool.or_eq_false_iff, Bool.not_eq_true', Bool.not_eq_false', dec_t, dec_f, Bool.and_eq_false_imp, beq_iff_eq, beq_eq_false_iff_ne, ne_eq] at hc4)
       refine k_exit ?_
       refine q_seq_exit (q_loopF_exit (q_block_exit (q_next ?_)))
       refine k_seq ?_
       refine k_region rfl ?_
       have hil : i = (mkM dev a b).length - 1 := by omega
       rw [hil] at ho
       have hq : mixF dev a b = o := ho
       have hal := rn_all (l := o) rfl
       refine a_op ?_
       refine a_op ?_
       refine s_nil (r_false ?_)
       refine q_next ?_
       refine k_ret ?_
       refine ⟨.inr rfl, a_ret [] (by rw [results50]) ?_ ?_ ?_⟩ <;> simp [-List.map_set, -List.map_replicate, -List.reduceReplicate, -List.map_map, -List.map_drop, -List.map_take, num, bol, txt, w8, w16, w32, w64, lst, cls, rowO, boxO, List.take_of_length_le, Wr.cellsL_len, wA, Wr.k_mk, Wr.n_mk, Wr.s_mk, Wr.l_mk, Wr.cellsL, Wr.z_eq, rnT, ftT, hq, hal, rns_len, -List.length_flatMap]

end Go.Proofs.Tryd
