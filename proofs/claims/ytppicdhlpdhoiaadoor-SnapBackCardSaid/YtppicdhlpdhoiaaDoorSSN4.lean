/- Contracts of this program's functions. -/
import Derived.Test.YtppicdhlpdhoiaaDoorSSN0
set_option maxHeartbeats 4000000
set_option maxRecDepth 100000
set_option linter.unusedVariables false
set_option linter.unusedSimpArgs false
namespace Go.Proofs.Tryd
open Go Go.Ot

def cmpI (a b : Int) : Int := if a < b then -1 else if b < a then 1 else 0
theorem cmpI_l {a b : Int} (h : a < b) : cmpI a b = -1 := if_pos h
theorem cmpI_g {a b : Int} (h : b < a) : cmpI a b = 1 := by rw [cmpI, if_neg (by omega), if_pos h]
theorem cmpI_e (a : Int) : cmpI a a = 0 := by rw [cmpI, if_neg (by omega), if_neg (by omega)]
/-- The first number that is not 0. -/
def orI : List Int → Int
 | [] => 0
 | a :: l => if a ≠ 0 then a else orI l
theorem orI_hit : ∀ {l : List Int} {i : Nat}, i < l.length → (∀ j, j < i → l.getD j 0 = 0) → l.getD i 0 ≠ 0 → orI l = l.getD i 0
 | a :: l, 0, _, _, h => if_pos (show a ≠ 0 from h)
 | a :: l, i + 1, hi, hz, h => by
  have h0 : a = 0 := hz 0 (by omega)
  rw [orI, if_neg (fun hn => hn h0)]
  exact orI_hit (l := l) (i := i) (by simp at hi; omega) (fun j hj => hz (j + 1) (by omega)) h
theorem orI_no : ∀ {l : List Int}, (∀ j, j < l.length → l.getD j 0 = 0) → orI l = 0
 | [], _ => rfl
 | a :: l, h => by
  have h0 : a = 0 := h 0 (by simp)
  rw [orI, if_neg (fun hn => hn h0)]
  exact orI_no (l := l) (fun j hj => h (j + 1) (by simp; omega))
def cmpD (a b c d : Int) : Int := orI [cmpI a c, cmpI b d]
theorem cmpD_l {a b c d : Int} (h : a < c ∨ (a = c ∧ b < d)) : cmpD a b c d = -1 := by
 rcases h with h | ⟨rfl, h⟩
 ·rw [cmpD, cmpI_l h]; rfl
 ·rw [cmpD, cmpI_e, cmpI_l h]; rfl
theorem cmpD_e (a b : Int) : cmpD a b a b = 0 := by rw [cmpD, cmpI_e, cmpI_e]; rfl
theorem cmpD_g {a b c d : Int} (h : c < a ∨ (a = c ∧ d < b)) : cmpD a b c d = 1 := by
 rcases h with h | ⟨rfl, h⟩
 ·rw [cmpD, cmpI_g h]; rfl
 ·rw [cmpD, cmpI_e, cmpI_g h]; rfl
attribute [local irreducible] wpK wpS seqK blockK loopF regK meetK OpSpec Le cmpI orI
theorem isnan_good (Γ : Gl) (n : Int) : Go.Ot.Good Γ prog 66 [.t (num n)] [] (.t (bol false)) [] [] := by
 refine a_body F.mix func66 (by rfl) ntmps66 ?_
 refine k_seq ?_
 refine k_region rfl ?_
 refine a_op ?_
 refine s_nil (r_false ?_)
 refine q_next ?_
 refine k_seq ?_
 refine k_region rfl ?_
 iterate 4 refine a_op ?_
 refine s_nil (r_false ?_)
 refine q_next ?_
 refine k_ret ?_
 refine ⟨.inr rfl, a_ret [] (by rw [results66]) ?_ ?_ ?_⟩ <;> simp [-List.map_set, -List.map_replicate, -List.reduceReplicate, -List.map_map, -List.map_drop, -List.map_take, num, bol, txt, w8, w16, w32, w64, lst, cls, rowO, boxO, List.take_of_length_le, Wr.cellsL_len, wA, Wr.k_mk, Wr.n_mk, Wr.s_mk, Wr.l_mk, Wr.cellsL, Wr.z_eq, rnT, ftT]

theorem compare_good (Γ : Gl) (a b : Int) : Go.Ot.Good Γ prog 55 [.t (num a), .t (num b)] [] (.t (num (cmpI a b))) [] [] := by
 refine a_body F.mix func55 (by rfl) ntmps55 ?_
 refine k_seq ?_
 refine k_region rfl ?_
 refine a_op ?_
 refine s_nil (r_false ?_)
 refine q_next ?_
 refine k_seq ?_
 refine k_region rfl ?_
 refine a_op ?_
 refine a_call [] false (isnan_good Γ a) ?_
 refine a_op ?_
 refine s_nil (r_false ?_)
 refine q_next ?_
 refine k_seq ?_
 refine k_region rfl ?_
 refine a_op ?_
 refine a_call [] false (isnan_good Γ b) ?_
 refine a_op ?_
 refine s_nil (r_false ?_)
 refine q_next ?_
 refine k_seq ?_
 refine k_seq ?_
 refine k_region rfl ?_
 refine a_op ?_
 refine s_nil (r_false ?_)
 refine q_next ?_
 refine a_false ?_
 refine k_skip ?_
 refine q_next ?_
 refine k_seq ?_
 refine k_seq ?_
 refine k_region rfl ?_
 refine a_op ?_
 refine s_nil (r_false ?_)
 refine q_next ?_
 refine a_false ?_
 refine k_skip ?_
 refine q_next ?_
 refine k_seq ?_
 refine k_seq ?_
 refine k_region rfl ?_
 rcases (show a < b ∨ (¬ a < b ∧ b < a) ∨ a = b by omega) with g | ⟨g0, g⟩ | rfl
 ·have hq := cmpI_l g
  iterate 3 refine a_op ?_
  refine s_nil (r_false ?_)
  refine q_next ?_
  refine a_true ?_
  refine k_seq ?_
  refine k_region rfl ?_
  refine a_op ?_
  refine s_nil (r_false ?_)
  refine q_next ?_
  refine k_ret ?_
  refine q_seq_ret ?_
  refine ⟨.inr rfl, a_ret [] (by rw [results55]) ?_ ?_ ?_⟩ <;> simp [-List.map_set, -List.map_replicate, -List.reduceReplicate, -List.map_map, -List.map_drop, -List.map_take, num, bol, txt, w8, w16, w32, w64, lst, cls, rowO, boxO, List.take_of_length_le, Wr.cellsL_len, wA, Wr.k_mk, Wr.n_mk, Wr.s_mk, Wr.l_mk, Wr.cellsL, Wr.z_eq, rnT, ftT, hq]
 ·have hq := cmpI_g g
  iterate 3 refine a_op ?_
  refine s_nil (r_false ?_)
  refine q_next ?_
  refine a_false ?_
  refine k_skip ?_
  refine q_next ?_
  refine k_seq ?_
  refine k_seq ?_
  refine k_region rfl ?_
  iterate 3 refine a_op ?_
  refine s_nil (r_false ?_)
  refine q_next ?_
  refine a_true ?_
  refine k_seq ?_
  refine k_region rfl ?_
  refine a_op ?_
  refine s_nil (r_false ?_)
  refine q_next ?_
  refine k_ret ?_
  refine q_seq_ret ?_
  refine ⟨.inr rfl, a_ret [] (by rw [results55]) ?_ ?_ ?_⟩ <;> simp [-List.map_set, -List.map_replicate, -List.reduceReplicate, -List.map_map, -List.map_drop, -List.map_take, num, bol, txt, w8, w16, w32, w64, lst, cls, rowO, boxO, List.take_of_length_le, Wr.cellsL_len, wA, Wr.k_mk, Wr.n_mk, Wr.s_mk, Wr.l_mk, Wr.cellsL, Wr.z_eq, rnT, ftT, hq]
 ·have hq := cmpI_e a
  iterate 3 refine a_op ?_
  refine s_nil (r_false ?_)
  refine q_next ?_
  refine a_false ?_
  refine k_skip ?_
  refine q_next ?_
  refine k_seq ?_
  refine k_seq ?_
  refine k_region rfl ?_
  iterate 3 refine a_op ?_
  refine s_nil (r_false ?_)
  refine q_next ?_
  refine a_false ?_
  refine k_skip ?_
  refine q_next ?_
  refine k_seq ?_
  refine k_region rfl ?_
  refine a_op ?_
  refine s_nil (r_false ?_)
  refine q_next ?_
  refine k_ret ?_
  refine ⟨.inr rfl, a_ret [] (by rw [results55]) ?_ ?_ ?_⟩ <;> simp [-List.map_set, -List.map_replicate, -List.reduceReplicate, -List.map_map, -List.map_drop, -List.map_take, num, bol, txt, w8, w16, w32, w64, lst, cls, rowO, boxO, List.take_of_length_le, Wr.cellsL_len, wA, Wr.k_mk, Wr.n_mk, Wr.s_mk, Wr.l_mk, Wr.cellsL, Wr.z_eq, rnT, ftT, hq]

theorem or_good (Γ : Gl) (l : List Int) (hl : l.length ≤ 1000000) : Go.Ot.Good Γ prog 54 [.t (lst num l)] [] (.t (num (orI l))) [] [] := by
 refine a_body F.mix func54 (by rfl) ntmps54 ?_
 refine k_seq ?_
 refine k_region rfl ?_
 refine a_op ?_
 refine s_nil (r_false ?_)
 refine q_next ?_
 refine k_seq ?_
 refine k_region rfl ?_
 refine a_op ?_
 refine s_nil (r_false ?_)
 refine q_next ?_
 refine k_seq ?_
 refine k_seq ?_
 refine k_region rfl ?_
 iterate 3 refine a_op ?_
 refine s_nil (r_false ?_)
 refine q_next ?_
 refine k_block ?_
 refine k_loopF (fun sl L (i : Nat) => ⟨setAll (setBad sl [0, 2, 5, 9, 10, 11, 12, 13, 14, 15, 16]) [(8, .t (num i))], Go.Ot.look (L)⟩) (fun i => i ≤ l.length ∧ ∀ j, j < i → l.getD j 0 = 0) (fun i => l.length - i) (0) (a_le ?_) ?_ ?_
 ·refine le_same ?_ ?_ ?_ <;> simp [-List.map_set, -List.map_replicate, -List.reduceReplicate, -List.map_map, -List.map_drop, -List.map_take, num, bol, txt, w8, w16, w32, w64, lst, cls, rowO, boxO, List.take_of_length_le, Wr.cellsL_len, wA, Wr.k_mk, Wr.n_mk, Wr.s_mk, Wr.l_mk, Wr.cellsL, Wr.z_eq, rnT, ftT]
 ·exact ⟨Nat.zero_le _, fun j hj => by omega⟩
 ·rintro i ⟨hi, hI⟩
  refine a_st ?_
  refine k_seq ?_
  refine k_region rfl ?_
  refine a_op ?_
  refine s_nil (r_false ?_)
  refine q_next ?_
  refine k_seq ?_
  refine a_if (fun hc0 => ?_) (fun hc0 => ?_)
  ·(try simp only [Bool.and_eq_true, Bool.or_eq_true, Bool.or_eq_false_iff, Bool.not_eq_true', Bool.not_eq_false', dec_t, dec_f, Bool.and_eq_false_imp, beq_iff_eq, beq_eq_false_iff_ne, ne_eq] at hc0)
   refine k_skip ?_
   refine q_next ?_
   refine k_seq ?_
   refine k_block ?_
   refine k_seq ?_
   refine k_region rfl ?_
   refine a_op ?_
   refine a_op ?_
   obtain ⟨x, hx⟩ : ∃ x, l.getD i 0 = x := ⟨_, rfl⟩
   simp only [hx]
   refine a_op ?_
   refine s_nil (r_false ?_)
   refine q_next ?_
   refine k_seq ?_
   refine k_region rfl ?_
   rcases Classical.em (x = 0) with h0 | h0
   ·skip
    iterate 3 refine a_op ?_
    refine s_nil (r_false ?_)
    refine q_next ?_
    refine a_false ?_
    refine k_skip ?_
    refine q_block (q_next ?_)
    refine k_region rfl ?_
    refine a_op ?_
    refine a_op ?_
    refine s_nil (r_false ?_)
    refine q_loopF (i + 1) (a_le ?_) ?_ ?_
    ·refine le_same ?_ ?_ ?_ <;> simp [-List.map_set, -List.map_replicate, -List.reduceReplicate, -List.map_map, -List.map_drop, -List.map_take, num, bol, txt, w8, w16, w32, w64, lst, cls, rowO, boxO, List.take_of_length_le, Wr.cellsL_len, wA, Wr.k_mk, Wr.n_mk, Wr.s_mk, Wr.l_mk, Wr.cellsL, Wr.z_eq, rnT, ftT]
    ·exact ⟨by omega, fun j hj => by rcases Nat.lt_or_eq_of_le (Nat.le_of_lt_succ hj) with e | e; exact hI j e; (subst e; rw [hx]; exact h0)⟩
    ·(first | omega | (simp only []; omega))
   ·have hq := orI_hit (l := l) (i := i) (by omega) hI (by rw [hx]; exact h0)
    rw [hx] at hq
    iterate 3 refine a_op ?_
    refine s_nil (r_false ?_)
    refine q_next ?_
    refine a_true ?_
    refine k_seq ?_
    refine k_region rfl ?_
    refine a_op ?_
    refine a_op ?_
    refine s_nil (r_false ?_)
    refine q_next ?_
    refine k_ret ?_
    refine q_block_ret (q_seq_ret (q_loopF_ret (q_block_ret (q_seq_ret ?_))))
    refine ⟨.inr rfl, a_ret [] (by rw [results54]) ?_ ?_ ?_⟩ <;> simp [-List.map_set, -List.map_replicate, -List.reduceReplicate, -List.map_map, -List.map_drop, -List.map_take, num, bol, txt, w8, w16, w32, w64, lst, cls, rowO, boxO, List.take_of_length_le, Wr.cellsL_len, wA, Wr.k_mk, Wr.n_mk, Wr.s_mk, Wr.l_mk, Wr.cellsL, Wr.z_eq, rnT, ftT, hq]
  ·(try simp only [Bool.and_eq_true, Bool.or_eq_true, Bool.or_eq_false_iff, Bool.not_eq_true', Bool.not_eq_false', dec_t, dec_f, Bool.and_eq_false_imp, beq_iff_eq, beq_eq_false_iff_ne, ne_eq] at hc0)
   refine k_exit ?_
   refine q_seq_exit (q_loopF_exit (q_block_exit (q_next ?_)))
   refine k_seq ?_
   refine k_region rfl ?_
   have hq := orI_no (l := l) (fun j hj => hI j (by omega))
   refine a_op ?_
   refine a_op ?_
   refine s_nil (r_false ?_)
   refine q_next ?_
   refine k_ret ?_
   refine ⟨.inr rfl, a_ret [] (by rw [results54]) ?_ ?_ ?_⟩ <;> simp [-List.map_set, -List.map_replicate, -List.reduceReplicate, -List.map_map, -List.map_drop, -List.map_take, num, bol, txt, w8, w16, w32, w64, lst, cls, rowO, boxO, List.take_of_length_le, Wr.cellsL_len, wA, Wr.k_mk, Wr.n_mk, Wr.s_mk, Wr.l_mk, Wr.cellsL, Wr.z_eq, rnT, ftT, hq]

theorem cmpd_good (Γ : Gl) (a b c d : Int) : Go.Ot.Good Γ prog 38 [.agg [.t (num a), .t (num b)], .agg [.t (num c), .t (num d)]] [] (.t (num (cmpD a b c d))) [] [] := by
 refine a_body F.mix func38 (by rfl) ntmps38 ?_
 refine k_seq ?_
 refine k_region rfl ?_
 iterate 3 refine a_op ?_
 refine s_nil (r_false ?_)
 refine q_next ?_
 refine k_seq ?_
 refine k_region rfl ?_
 iterate 4 refine a_opd ?_
 refine a_calld [] false (compare_good Γ a c) ?_
 iterate 4 refine a_opd ?_
 refine a_calld [] false (compare_good Γ b d) ?_
 refine a_opd ?_
 refine a_calld [.r 1 10 0] false (or_good Γ [cmpI a c, cmpI b d] (by simp)) ?_
 refine a_opd ?_
 refine s_nil (r_true (by kernel_rfl) ?_)
 refine q_next ?_
 refine k_ret ?_
 refine ⟨.inr rfl, a_ret [] (by rw [results38]) ?_ ?_ ?_⟩ <;> simp [-List.map_set, -List.map_replicate, -List.reduceReplicate, -List.map_map, -List.map_drop, -List.map_take, num, bol, txt, w8, w16, w32, w64, lst, cls, rowO, boxO, List.take_of_length_le, Wr.cellsL_len, wA, Wr.k_mk, Wr.n_mk, Wr.s_mk, Wr.l_mk, Wr.cellsL, Wr.z_eq, rnT, ftT, cmpD]

end Go.Proofs.Tryd
