import Derived.Test.YtkbbakabdedicaaSJ
import Derived.Test.YtkbbakabdedicaaSG
set_option maxHeartbeats 4000000
set_option maxRecDepth 100000
set_option linter.unusedVariables false
set_option linter.unusedSimpArgs false
namespace Go.Proofs.Try
open Go Go.Ot
-- attribute [local irreducible] wpK wpS seqK blockK loopF regK meetK OpSpec Le
attribute [local irreducible] wpK wpS seqK blockK loopF regK meetK OpSpec Le sched wordTo rnds addTo rotr chunks takeB be64 outB sha padB

theorem dec_pos {p : Prop} [Decidable p] (h : p) : decide p = true := decide_eq_true h
theorem dec_neg {p : Prop} [Decidable p] (h : ¬ p) : decide p = false := decide_eq_false h
attribute [push_cast] dec_pos dec_neg
def longB (ns : List UInt8) (k : Nat) : Nat → List UInt8
  | 0 => List.replicate k 0
  | i + 1 => (longB ns k i).set i (if 0 < ns.length then ns.getD (i % ns.length) 0 ^^^ UInt8.ofInt (i : Int) else UInt8.ofInt ((i : Int) * 7))
theorem longB_len (ns : List UInt8) (k : Nat) : ∀ i, (longB ns k i).length = k
  | 0 => by simp [longB]
  | i + 1 => by simp [longB, longB_len ns k i]
theorem flat_one {α : Type} (s : List α) : [s].flatten = s := by simp
theorem flat_two {α : Type} (s t : List α) : [s, t].flatten = s ++ t := by simp
theorem flat_le {l : List (List UInt8)} {n : Nat} : (∀ x ∈ l, x.length ≤ n) → l.flatten.length ≤ n * l.length := by
  induction l with
  | nil => intro _; simp
  | cons a l ih =>
    intro h
    have h1 := h a (by simp)
    have h2 := ih fun x hx => h x (by simp [hx])
    simp only [List.flatten_cons, List.length_append, List.length_cons, Nat.mul_add, Nat.mul_one]
    omega
theorem take_next {α : Type} [Inhabited α] {l : List α} {i : Nat} (h : i < l.length) : l.take (i + 1) = l.take i ++ [l.getD i default] := by
  rw [List.take_add_one, List.getElem?_eq_getElem h]
  simp [List.getD_eq_getElem?_getD, List.getElem?_eq_getElem h]
theorem cut_next {A : List UInt8} {o : List (List UInt8)} {a r : Nat} (h : o.flatten = A.take a) (har : a ≤ r) : (o ++ [(A.take r).drop a]).flatten = A.take r := by
  have h2 : (A.take r).take a = A.take a := by rw [List.take_take, Nat.min_eq_left har]
  simp only [List.flatten_append, List.flatten_cons, List.flatten_nil, List.append_nil, h]
  rw [← h2, List.take_append_drop]
theorem mod_nat (i n : Nat) (h : 0 < n) : ∃ m : Nat, (i : Int) % (n : Int) = (m : Int) ∧ m < n ∧ m = i % n := ⟨i % n, by simp, Nat.mod_lt _ h, rfl⟩

theorem all_good (Γ : Gl) (s : List UInt8) (hl : s.length ≤ maxLen) : Go.Ot.Good Γ prog 3 [.t (txt s)] [] (.t (bol true)) [] [] := by
  refine a_body F.mix func3 (by rfl) ntmps3 ?_
  refine k_seq ?_
  refine k_region rfl ?_
  refine a_op ?_
  refine s_nil (r_false ?_)
  refine q_next ?_
  refine k_seq ?_
  refine k_region rfl ?_
  rcases Nat.lt_or_ge 2000 s.length with h2 | h2
  · skip
    iterate 4 refine a_op ?_
    first | refine a_go ?_ | refine a_no ?_ | refine a_may ?_
    first | refine a_go ?_ | refine a_no ?_ | refine a_may ?_
    refine a_no ?_
    first | refine a_go ?_ | refine a_no ?_ | refine a_may ?_
    refine a_no ?_
    refine a_no ?_
    first | refine a_go ?_ | refine a_no ?_ | refine a_may ?_
    refine a_no ?_
    first | refine a_go ?_ | refine a_no ?_ | refine a_may ?_
    refine a_op ?_
    refine a_op ?_
    refine s_nil (r_false ?_)
    refine q_next ?_
    refine k_ret ?_
    refine ⟨.inr rfl, a_ret [] (by rw [results3]) ?_ ?_ ?_⟩ <;> simp [-List.map_set, -List.map_replicate, -List.reduceReplicate, -List.map_map, -List.map_drop, -List.map_take, num, bol, txt, w8, w16, w32, w64, lst, cls, rowO, boxO, List.take_of_length_le]
  · skip
    iterate 4 refine a_op ?_
    first | refine a_go ?_ | refine a_no ?_ | refine a_may ?_
    first | refine a_go ?_ | refine a_no ?_ | refine a_may ?_
    refine a_callgo [.r 1 5 0] false (sum_good Γ [s] (by simp) (by simp; omega)) ?_
    first | refine a_go ?_ | refine a_no ?_ | refine a_may ?_
    refine a_callgo [] false (ref_good Γ s (by omega)) ?_
    refine a_go (hs := by (simp only [push_cast, flat_one] <;> rfl)) ?_
    first | refine a_go ?_ | refine a_no ?_ | refine a_may ?_
    refine a_callgo [] false (awake_good Γ) ?_
    first | refine a_go ?_ | refine a_no ?_ | refine a_may ?_
    refine a_op ?_
    refine a_op ?_
    refine s_nil (r_false ?_)
    refine q_next ?_
    refine k_ret ?_
    refine ⟨.inr rfl, a_ret [] (by rw [results3]) ?_ ?_ ?_⟩ <;> simp [-List.map_set, -List.map_replicate, -List.reduceReplicate, -List.map_map, -List.map_drop, -List.map_take, num, bol, txt, w8, w16, w32, w64, lst, cls, rowO, boxO, List.take_of_length_le]

theorem long_good (Γ : Gl) (ns : List UInt8) (n : UInt8) (hl : ns.length ≤ maxLen) : Go.Ot.Good Γ prog 4 [.t (lst w8 ns), .t (w8 n)] [] (.t (bol true)) [] [] := by
  have hn := UInt8.toNat_lt n
  refine a_body F.mix func4 (by rfl) ntmps4 ?_
  refine k_seq ?_
  refine k_region rfl ?_
  refine a_op ?_
  refine s_nil (r_false ?_)
  refine q_next ?_
  refine k_seq ?_
  refine k_region rfl ?_
  iterate 3 refine a_op ?_
  refine s_nil (r_false ?_)
  refine q_next ?_
  refine k_seq ?_
  refine k_region rfl ?_
  iterate 3 refine a_op ?_
  refine s_nil (r_false ?_)
  refine q_next ?_
  refine k_seq ?_
  refine k_seq ?_
  refine k_region rfl ?_
  refine a_op ?_
  refine s_nil (r_false ?_)
  refine q_next ?_
  refine k_block ?_
  refine k_loopF (fun sl L (i : Nat) => ⟨setAll (setBad sl [1, 8, 9, 10, 11, 12, 13, 14, 15, 16, 17, 18, 19, 20, 21, 22, 23, 24, 25, 26, 27, 28, 29, 30, 31, 32, 33, 34, 35, 36, 37, 38]) [(7, .t (num i))], Go.Ot.look (putL (.r 2 1 0) (rowO 5 w8 (longB ns n.toNat i)) L)⟩) (fun i => i ≤ n.toNat) (fun i => n.toNat - i) (0) (a_le ?_) ?_ ?_
  · refine le_same ?_ ?_ ?_ <;> simp [-List.map_set, -List.map_replicate, -List.reduceReplicate, -List.map_map, -List.map_drop, -List.map_take, num, bol, txt, w8, w16, w32, w64, lst, cls, rowO, boxO, List.take_of_length_le, longB]
  · (first | omega | simp)
  · intro i hi
    have hb := longB_len ns n.toNat i
    refine a_st ?_
    refine k_seq ?_
    refine k_seq ?_
    refine k_region rfl ?_
    iterate 3 refine a_op ?_
    refine s_nil (r_false ?_)
    refine q_next ?_
    refine a_if (fun hc0 => ?_) (fun hc0 => ?_)
    · (try simp only [Bool.and_eq_true, Bool.or_eq_true, Bool.or_eq_false_iff, Bool.not_eq_true', Bool.not_eq_false', dec_t, dec_f, Bool.and_eq_false_imp, beq_iff_eq, beq_eq_false_iff_ne, ne_eq] at hc0)
      refine k_skip ?_
      refine q_next ?_
      refine k_seq ?_
      refine k_block ?_
      refine k_seq ?_
      refine k_region rfl ?_
      iterate 4 refine a_op ?_
      refine a_cv8 ?_
      refine a_op ?_
      refine a_op ?_
      refine s_nil (r_false ?_)
      refine q_next ?_
      refine k_seq ?_
      refine k_region rfl ?_
      iterate 3 refine a_op ?_
      refine s_nil (r_false ?_)
      refine q_next ?_
      refine a_if (fun hc1 => ?_) (fun hc1 => ?_)
      · (try simp only [Bool.and_eq_true, Bool.or_eq_true, Bool.or_eq_false_iff, Bool.not_eq_true', Bool.not_eq_false', dec_t, dec_f, Bool.and_eq_false_imp, beq_iff_eq, beq_eq_false_iff_ne, ne_eq] at hc1)
        have hq : (0 < ns.length) = True := eq_true (by omega)
        obtain ⟨m, hm, hlt, hmi⟩ := mod_nat i ns.length (by omega)
        have hmi' := hmi.symm
        refine k_region rfl ?_
        iterate 6 refine a_op ?_
        refine a_op (hs := by (simp (disch := omega) only [push_cast, hm] <;> rfl)) ?_
        iterate 3 refine a_op ?_
        refine a_cv8 ?_
        iterate 3 refine a_op ?_
        refine s_nil (r_false ?_)
        refine q_block (q_next ?_)
        refine k_region rfl ?_
        iterate 3 refine a_op ?_
        refine s_nil (r_false ?_)
        refine q_loopF (i + 1) (a_le ?_) ?_ ?_
        · refine le_same ?_ ?_ ?_ <;> simp [-List.map_set, -List.map_replicate, -List.reduceReplicate, -List.map_map, -List.map_drop, -List.map_take, num, bol, txt, w8, w16, w32, w64, lst, cls, rowO, boxO, List.take_of_length_le, longB, hq, hmi']
        · (first | omega | (simp_all <;> omega))
        · (first | omega | (simp only []; omega))
      · (try simp only [Bool.and_eq_true, Bool.or_eq_true, Bool.or_eq_false_iff, Bool.not_eq_true', Bool.not_eq_false', dec_t, dec_f, Bool.and_eq_false_imp, beq_iff_eq, beq_eq_false_iff_ne, ne_eq] at hc1)
        have hq : (0 < ns.length) = False := eq_false (by omega)
        have hmi' : True := trivial
        refine k_skip ?_
        refine q_block (q_next ?_)
        refine k_region rfl ?_
        iterate 3 refine a_op ?_
        refine s_nil (r_false ?_)
        refine q_loopF (i + 1) (a_le ?_) ?_ ?_
        · refine le_same ?_ ?_ ?_ <;> simp [-List.map_set, -List.map_replicate, -List.reduceReplicate, -List.map_map, -List.map_drop, -List.map_take, num, bol, txt, w8, w16, w32, w64, lst, cls, rowO, boxO, List.take_of_length_le, longB, hq, hmi']
        · (first | omega | (simp_all <;> omega))
        · (first | omega | (simp only []; omega))
    · (try simp only [Bool.and_eq_true, Bool.or_eq_true, Bool.or_eq_false_iff, Bool.not_eq_true', Bool.not_eq_false', dec_t, dec_f, Bool.and_eq_false_imp, beq_iff_eq, beq_eq_false_iff_ne, ne_eq] at hc0)
      refine k_exit ?_
      refine q_seq_exit (q_loopF_exit (q_block_exit (q_next ?_)))
      refine k_seq ?_
      refine k_region rfl ?_
      obtain rfl : i = n.toNat := by omega
      refine a_opd ?_
      first | refine a_textd ?_ | refine a_textsd ?_
      refine a_opd ?_
      refine a_calld [.r 9 2 0] false (sum_good Γ [longB ns n.toNat n.toNat] (by simp) (by simp [hb]; omega)) ?_
      refine a_opd ?_
      first | refine a_textd ?_ | refine a_textsd ?_
      refine a_calld [] false (ref_good Γ (longB ns n.toNat n.toNat) (by rw [hb]; omega)) ?_
      refine a_opd (hs := by (simp only [push_cast, flat_one] <;> rfl)) ?_
      refine a_opd ?_
      refine a_callgod [] false (awake_good Γ) ?_
      refine a_opd ?_
      refine a_opd ?_
      refine s_nil (r_true (by kernel_rfl) ?_)
      refine q_next ?_
      refine k_ret ?_
      refine ⟨.inr rfl, a_ret [] (by rw [results4]) ?_ ?_ ?_⟩ <;> simp [-List.map_set, -List.map_replicate, -List.reduceReplicate, -List.map_map, -List.map_drop, -List.map_take, num, bol, txt, w8, w16, w32, w64, lst, cls, rowO, boxO, List.take_of_length_le]

theorem chain_good (Γ : Gl) (s : List UInt8) (n : UInt8) (hl : s.length ≤ maxLen) : Go.Ot.Good Γ prog 7 [.t (txt s), .t (w8 n)] [] (.t (bol true)) [] [] := by
  have hn := UInt8.toNat_lt n
  refine a_body F.mix func7 (by rfl) ntmps7 ?_
  refine k_seq ?_
  refine k_region rfl ?_
  refine a_op ?_
  refine s_nil (r_false ?_)
  refine q_next ?_
  refine k_seq ?_
  refine k_seq ?_
  refine k_region rfl ?_
  iterate 3 refine a_op ?_
  refine s_nil (r_false ?_)
  refine q_next ?_
  refine a_if (fun hc0 => ?_) (fun hc0 => ?_)
  · (try simp only [Bool.and_eq_true, Bool.or_eq_true, Bool.or_eq_false_iff, Bool.not_eq_true', Bool.not_eq_false', dec_t, dec_f, Bool.and_eq_false_imp, beq_iff_eq, beq_eq_false_iff_ne, ne_eq] at hc0)
    refine k_seq ?_
    refine k_region rfl ?_
    refine a_call [] false (awake_good Γ) ?_
    refine a_op ?_
    refine s_nil (r_false ?_)
    refine q_next ?_
    refine k_ret ?_
    refine q_seq_ret ?_
    refine ⟨.inr rfl, a_ret [] (by rw [results7]) ?_ ?_ ?_⟩ <;> simp [-List.map_set, -List.map_replicate, -List.reduceReplicate, -List.map_map, -List.map_drop, -List.map_take, num, bol, txt, w8, w16, w32, w64, lst, cls, rowO, boxO, List.take_of_length_le]
  · (try simp only [Bool.and_eq_true, Bool.or_eq_true, Bool.or_eq_false_iff, Bool.not_eq_true', Bool.not_eq_false', dec_t, dec_f, Bool.and_eq_false_imp, beq_iff_eq, beq_eq_false_iff_ne, ne_eq] at hc0)
    refine k_skip ?_
    refine q_next ?_
    refine k_seq ?_
    refine k_region rfl ?_
    iterate 4 refine a_op ?_
    refine s_nil (r_false ?_)
    refine q_next ?_
    refine k_seq ?_
    refine k_seq ?_
    refine k_region rfl ?_
    refine a_op ?_
    refine s_nil (r_false ?_)
    refine q_next ?_
    refine k_block ?_
    refine k_loopF (fun sl L (x : Nat × List UInt8 × List UInt8) => ⟨setAll (setBad sl [0, 4, 8, 9, 10, 11, 12, 13, 14, 15, 16, 17, 18, 19, 20, 21, 22, 23, 24, 25, 26, 27, 28, 29, 30, 31, 32, 33, 34]) [(7, .t (num x.1)), (5, .t (txt x.2.1)), (6, .t (txt x.2.2))], Go.Ot.look (L)⟩) (fun x => x.2.1.length ≤ 400 ∧ x.2.2.length ≤ 400) (fun x => 12 - x.1) ((0, s, s)) (a_le ?_) ?_ ?_
    · refine le_same ?_ ?_ ?_ <;> simp [-List.map_set, -List.map_replicate, -List.reduceReplicate, -List.map_map, -List.map_drop, -List.map_take, num, bol, txt, w8, w16, w32, w64, lst, cls, rowO, boxO, List.take_of_length_le]
    · exact ⟨by simp only []; omega, by simp only []; omega⟩
    · rintro ⟨i, a, b⟩ ⟨ha, hb⟩
      dsimp only at ha hb
      refine a_st ?_
      refine k_seq ?_
      refine k_seq ?_
      refine k_region rfl ?_
      iterate 5 refine a_op ?_
      refine s_nil (r_false ?_)
      refine q_next ?_
      refine a_if (fun hc1 => ?_) (fun hc1 => ?_)
      · (try simp only [Bool.and_eq_true, Bool.or_eq_true, Bool.or_eq_false_iff, Bool.not_eq_true', Bool.not_eq_false', dec_t, dec_f, Bool.and_eq_false_imp, beq_iff_eq, beq_eq_false_iff_ne, ne_eq] at hc1)
        refine k_skip ?_
        refine q_next ?_
        refine k_seq ?_
        refine k_block ?_
        refine k_seq ?_
        refine k_region rfl ?_
        iterate 3 refine a_op ?_
        refine a_call [.r 7 2 0] false (sum_good Γ [a, b] (by simp) (by simp; omega)) ?_
        refine a_op ?_
        refine s_nil (r_false ?_)
        refine q_next ?_
        refine k_seq ?_
        refine k_region rfl ?_
        iterate 3 refine a_op ?_
        refine a_call [] false (ref_good Γ (sha [a, b].flatten ++ b) (by simp [sha_len]; omega)) ?_
        refine a_op ?_
        refine s_nil (r_false ?_)
        refine q_next ?_
        refine k_seq ?_
        refine k_seq ?_
        refine k_region rfl ?_
        iterate 3 refine a_op ?_
        refine s_nil (r_false ?_)
        refine q_next ?_
        refine a_false ?_
        refine k_skip ?_
        refine q_next ?_
        refine k_region rfl ?_
        refine a_op ?_
        refine a_op ?_
        refine a_call [.r 11 1 0] false (sum_good Γ [sha [a, b].flatten] (by simp) (by simp [sha_len])) ?_
        refine a_op ?_
        refine s_nil (r_false ?_)
        refine q_block (q_next ?_)
        refine k_region rfl ?_
        iterate 3 refine a_op ?_
        refine s_nil (r_false ?_)
        refine q_loopF ((i + 1, sha (sha (a ++ b)), sha (sha (a ++ b) ++ b))) (a_le ?_) ?_ ?_
        · refine le_same ?_ ?_ ?_ <;> simp [-List.map_set, -List.map_replicate, -List.reduceReplicate, -List.map_map, -List.map_drop, -List.map_take, num, bol, txt, w8, w16, w32, w64, lst, cls, rowO, boxO, List.take_of_length_le, flat_one, flat_two]
        · exact ⟨by simp only [sha_len]; omega, by simp only [sha_len]; omega⟩
        · (simp only []; omega)
      · (try simp only [Bool.and_eq_true, Bool.or_eq_true, Bool.or_eq_false_iff, Bool.not_eq_true', Bool.not_eq_false', dec_t, dec_f, Bool.and_eq_false_imp, beq_iff_eq, beq_eq_false_iff_ne, ne_eq] at hc1)
        refine k_exit ?_
        refine q_seq_exit (q_loopF_exit (q_block_exit (q_next ?_)))
        refine k_seq ?_
        refine k_region rfl ?_
        iterate 3 refine a_op ?_
        refine a_call [.r 12 2 0] false (sum_good Γ [a, b] (by simp) (by simp; omega)) ?_
        iterate 3 refine a_op ?_
        refine a_call [] false (ref_good Γ (a ++ b) (by simp; omega)) ?_
        refine a_op (hs := by (simp only [push_cast, flat_two] <;> rfl)) ?_
        refine a_op ?_
        refine a_callgo [] false (awake_good Γ) ?_
        refine a_op ?_
        refine a_op ?_
        refine s_nil (r_false ?_)
        refine q_next ?_
        refine k_ret ?_
        refine ⟨.inr rfl, a_ret [] (by rw [results7]) ?_ ?_ ?_⟩ <;> simp [-List.map_set, -List.map_replicate, -List.reduceReplicate, -List.map_map, -List.map_drop, -List.map_take, num, bol, txt, w8, w16, w32, w64, lst, cls, rowO, boxO, List.take_of_length_le]

theorem parts_good (Γ : Gl) (l : List (List UInt8)) (cut : List UInt8) (hl : l.length ≤ maxLen) (hcl : cut.length ≤ maxLen) : Go.Ot.Good Γ prog 5 [.t (lst txt l), .t (lst w8 cut)] [] (.t (bol true)) [] [] := by
  refine a_body F.mix func5 (by rfl) ntmps5 ?_
  refine k_seq ?_
  refine k_region rfl ?_
  refine a_op ?_
  refine s_nil (r_false ?_)
  refine q_next ?_
  refine k_seq ?_
  refine k_seq ?_
  refine k_region rfl ?_
  iterate 4 refine a_op ?_
  first | refine a_go ?_ | refine a_no ?_ | refine a_may ?_
  first | refine a_go ?_ | refine a_no ?_ | refine a_may ?_
  first | refine a_go ?_ | refine a_no ?_ | refine a_may ?_
  refine a_op ?_
  refine s_nil (r_false ?_)
  refine q_next ?_
  refine a_if (fun hc0 => ?_) (fun hc0 => ?_)
  · (try simp only [Bool.and_eq_true, Bool.or_eq_true, Bool.or_eq_false_iff, Bool.not_eq_true', Bool.not_eq_false', dec_t, dec_f, Bool.and_eq_false_imp, beq_iff_eq, beq_eq_false_iff_ne, ne_eq] at hc0)
    refine k_seq ?_
    refine k_region rfl ?_
    refine a_call [] false (awake_good Γ) ?_
    refine a_op ?_
    refine s_nil (r_false ?_)
    refine q_next ?_
    refine k_ret ?_
    refine q_seq_ret ?_
    refine ⟨.inr rfl, a_ret [] (by rw [results5]) ?_ ?_ ?_⟩ <;> simp [-List.map_set, -List.map_replicate, -List.reduceReplicate, -List.map_map, -List.map_drop, -List.map_take, num, bol, txt, w8, w16, w32, w64, lst, cls, rowO, boxO, List.take_of_length_le]
  · (try simp only [Bool.and_eq_true, Bool.or_eq_true, Bool.or_eq_false_iff, Bool.not_eq_true', Bool.not_eq_false', dec_t, dec_f, Bool.and_eq_false_imp, beq_iff_eq, beq_eq_false_iff_ne, ne_eq] at hc0)
    refine k_skip ?_
    refine q_next ?_
    refine k_seq ?_
    refine k_region rfl ?_
    refine a_op ?_
    refine s_nil (r_false ?_)
    refine q_next ?_
    refine k_seq ?_
    refine k_seq ?_
    refine k_region rfl ?_
    refine a_op ?_
    refine s_nil (r_false ?_)
    refine q_next ?_
    refine k_block ?_
    refine k_loopF (fun sl L (i : Nat) => ⟨setAll (setBad sl [4, 12, 13, 14, 15, 16, 17, 18, 19, 20, 21, 22, 23, 24, 25, 26, 27, 28, 29, 30, 31, 32, 33, 34, 35, 36, 37, 38, 39]) [(5, .t (txt (l.take i).flatten)), (6, .t (num i))], Go.Ot.look (L)⟩) (fun i => i ≤ l.length ∧ ∀ x ∈ l.take i, x.length ≤ 200) (fun i => l.length - i) (0) (a_le ?_) ?_ ?_
    · refine le_same ?_ ?_ ?_ <;> simp [-List.map_set, -List.map_replicate, -List.reduceReplicate, -List.map_map, -List.map_drop, -List.map_take, num, bol, txt, w8, w16, w32, w64, lst, cls, rowO, boxO, List.take_of_length_le]
    · exact ⟨by simp, by simp⟩
    · rintro i ⟨hi, hx⟩
      have hb : (l.take i).flatten.length ≤ 4000 := by
        have := flat_le hx
        rw [List.length_take] at this
        omega
      refine a_st ?_
      refine k_seq ?_
      refine k_seq ?_
      refine k_region rfl ?_
      iterate 4 refine a_op ?_
      refine s_nil (r_false ?_)
      refine q_next ?_
      refine a_if (fun hc1 => ?_) (fun hc1 => ?_)
      · (try simp only [Bool.and_eq_true, Bool.or_eq_true, Bool.or_eq_false_iff, Bool.not_eq_true', Bool.not_eq_false', dec_t, dec_f, Bool.and_eq_false_imp, beq_iff_eq, beq_eq_false_iff_ne, ne_eq] at hc1)
        refine k_skip ?_
        refine q_next ?_
        refine k_seq ?_
        refine k_block ?_
        refine k_seq ?_
        refine k_seq ?_
        refine k_region rfl ?_
        iterate 6 refine a_op ?_
        refine s_nil (r_false ?_)
        refine q_next ?_
        refine a_if (fun hc2 => ?_) (fun hc2 => ?_)
        · (try simp only [Bool.and_eq_true, Bool.or_eq_true, Bool.or_eq_false_iff, Bool.not_eq_true', Bool.not_eq_false', dec_t, dec_f, Bool.and_eq_false_imp, beq_iff_eq, beq_eq_false_iff_ne, ne_eq] at hc2)
          refine k_seq ?_
          refine k_region rfl ?_
          refine a_call [] false (awake_good Γ) ?_
          refine a_op ?_
          refine s_nil (r_false ?_)
          refine q_next ?_
          refine k_ret ?_
          refine q_seq_ret (q_block_ret (q_seq_ret (q_loopF_ret (q_block_ret (q_seq_ret ?_)))))
          refine ⟨.inr rfl, a_ret [] (by rw [results5]) ?_ ?_ ?_⟩ <;> simp [-List.map_set, -List.map_replicate, -List.reduceReplicate, -List.map_map, -List.map_drop, -List.map_take, num, bol, txt, w8, w16, w32, w64, lst, cls, rowO, boxO, List.take_of_length_le]
        · (try simp only [Bool.and_eq_true, Bool.or_eq_true, Bool.or_eq_false_iff, Bool.not_eq_true', Bool.not_eq_false', dec_t, dec_f, Bool.and_eq_false_imp, beq_iff_eq, beq_eq_false_iff_ne, ne_eq] at hc2)
          refine k_skip ?_
          refine q_next ?_
          refine k_region rfl ?_
          iterate 7 refine a_op ?_
          refine s_nil (r_false ?_)
          refine q_block (q_next ?_)
          refine k_region rfl ?_
          iterate 3 refine a_op ?_
          refine s_nil (r_false ?_)
          refine q_loopF (i + 1) (a_le ?_) ?_ ?_
          · refine le_same ?_ ?_ ?_ <;> simp [-List.map_set, -List.map_replicate, -List.reduceReplicate, -List.map_map, -List.map_drop, -List.map_take, num, bol, txt, w8, w16, w32, w64, lst, cls, rowO, boxO, List.take_of_length_le, take_next (show i < l.length from by omega), dfl_list]
          · refine ⟨by omega, fun x hx' => ?_⟩
            rw [take_next (by omega)] at hx'
            rcases List.mem_append.1 hx' with h | h
            · exact hx x h
            · rw [List.mem_singleton.1 h]; rw [dfl_list]; omega
          · (first | omega | (simp only []; omega))
      · (try simp only [Bool.and_eq_true, Bool.or_eq_true, Bool.or_eq_false_iff, Bool.not_eq_true', Bool.not_eq_false', dec_t, dec_f, Bool.and_eq_false_imp, beq_iff_eq, beq_eq_false_iff_ne, ne_eq] at hc1)
        refine k_exit ?_
        refine q_seq_exit (q_loopF_exit (q_block_exit (q_next ?_)))
        refine k_seq ?_
        refine k_region rfl ?_
        refine a_op ?_
        refine s_nil (r_false ?_)
        refine q_next ?_
        refine k_seq ?_
        refine k_region rfl ?_
        refine a_op ?_
        refine s_nil (r_false ?_)
        refine q_next ?_
        refine k_seq ?_
        refine k_seq ?_
        refine k_region rfl ?_
        refine a_op ?_
        refine s_nil (r_false ?_)
        refine q_next ?_
        refine k_block ?_
        obtain rfl : i = l.length := by omega
        rw [List.take_length] at hb
        refine k_loopF (fun sl L (y : Nat × Nat × List (List UInt8)) => ⟨setAll (setBad sl [6, 10, 12, 13, 14, 15, 16, 17, 18, 19, 20, 21, 22, 23, 24, 25, 26, 27, 28, 29, 30, 31, 32, 33, 34, 35, 36, 37, 38, 39, 40, 41, 42, 43, 44, 45, 46, 47, 48, 49, 50, 51, 52, 53, 54, 55, 56, 57, 58, 59, 60, 61, 62, 63, 64, 65, 66, 67, 68, 69, 70, 71, 72, 73]) [(7, .msl (.n 7) 0 y.2.2.length 1), (8, .t (num y.2.1)), (9, .t (num y.1))], Go.Ot.look (putL (.n 7) (rowO 9 txt y.2.2) L)⟩) (fun y => y.1 ≤ cut.length ∧ y.2.1 ≤ l.flatten.length ∧ y.2.2.flatten = l.flatten.take y.2.1 ∧ y.2.2.length = y.1) (fun y => cut.length - y.1) ((0, 0, [])) (a_le ?_) ?_ ?_
        · refine le_of [] ?_ ?_ ?_ <;> simp [-List.map_set, -List.map_replicate, -List.reduceReplicate, -List.map_map, -List.map_drop, -List.map_take, num, bol, txt, w8, w16, w32, w64, lst, cls, rowO, boxO, List.take_of_length_le] <;> (try omega)
        · exact ⟨by simp, by simp, by simp, rfl⟩
        · rintro ⟨i, a, o⟩ ⟨h1, h2, h3, h4⟩
          dsimp only at h1 h2 h3 h4
          refine a_st ?_
          refine k_seq ?_
          refine k_seq ?_
          refine k_region rfl ?_
          iterate 5 refine a_op ?_
          first | refine a_go ?_ | refine a_no ?_ | refine a_may ?_
          first | refine a_go ?_ | refine a_no ?_ | refine a_may ?_
          first | refine a_go ?_ | refine a_no ?_ | refine a_may ?_
          first | refine a_go ?_ | refine a_no ?_ | refine a_may ?_
          refine a_op ?_
          refine s_nil (r_false ?_)
          refine q_next ?_
          refine a_if (fun hc3 => ?_) (fun hc3 => ?_)
          · (try simp only [Bool.and_eq_true, Bool.or_eq_true, Bool.or_eq_false_iff, Bool.not_eq_true', Bool.not_eq_false', dec_t, dec_f, Bool.and_eq_false_imp, beq_iff_eq, beq_eq_false_iff_ne, ne_eq] at hc3)
            have hx8 := UInt8.toNat_lt (cut.getD i 0)
            refine k_skip ?_
            refine q_next ?_
            refine k_seq ?_
            refine k_block ?_
            refine k_seq ?_
            refine k_region rfl ?_
            iterate 11 refine a_op ?_
            refine s_nil (r_false ?_)
            refine q_next ?_
            refine k_seq ?_
            refine k_region rfl ?_
            iterate 10 refine a_op ?_
            refine s_nil (r_false ?_)
            refine q_next ?_
            refine k_region rfl ?_
            iterate 4 refine a_op ?_
            refine s_nil (r_false ?_)
            refine q_block (q_next ?_)
            refine k_region rfl ?_
            iterate 3 refine a_op ?_
            refine s_nil (r_false ?_)
            have en : ((a : Int) + min ((cut.getD i 0).toNat : Int) ((l.flatten.length : Int) - (a : Int))).toNat = a + min (cut.getD i 0).toNat (l.flatten.length - a) := by omega
            simp only [List.getD_eq_getElem?_getD] at en
            refine q_loopF ((i + 1, a + min (cut.getD i 0).toNat (l.flatten.length - a), o ++ [(l.flatten.take (a + min (cut.getD i 0).toNat (l.flatten.length - a))).drop a])) (a_le ?_) ?_ ?_
            · refine le_same ?_ ?_ ?_ <;> simp [-List.map_set, -List.map_replicate, -List.reduceReplicate, -List.map_map, -List.map_drop, -List.map_take, num, bol, txt, w8, w16, w32, w64, lst, cls, rowO, boxO, List.take_of_length_le, en, -List.length_flatten] <;> (try omega)
            · exact ⟨by dsimp only; omega, by dsimp only; omega, cut_next h3 (by omega), by simp [h4]⟩
            · (dsimp only; omega)
          · (try simp only [Bool.and_eq_true, Bool.or_eq_true, Bool.or_eq_false_iff, Bool.not_eq_true', Bool.not_eq_false', dec_t, dec_f, Bool.and_eq_false_imp, beq_iff_eq, beq_eq_false_iff_ne, ne_eq] at hc3)
            refine k_exit ?_
            refine q_seq_exit (q_loopF_exit (q_block_exit (q_next ?_)))
            refine k_seq ?_
            refine k_region rfl ?_
            have hfl : (o ++ [l.flatten.drop a]).flatten = l.flatten := by simp [h3]
            iterate 7 refine a_op ?_
            refine s_nil (r_false ?_)
            refine q_next ?_
            refine k_seq ?_
            refine k_region rfl ?_
            refine a_op ?_
            refine a_op ?_
            refine a_call [.r 19 1 0] false (sum_good Γ [l.flatten] (by simp) (by rw [flat_one]; omega)) ?_
            refine a_op ?_
            refine s_nil (r_false ?_)
            refine q_next ?_
            refine k_seq ?_
            refine k_region rfl ?_
            iterate 4 refine a_op ?_
            first | refine a_go ?_ | refine a_no ?_ | refine a_may ?_
            refine a_callgo [] false (sum_good Γ l (by omega) (by omega)) ?_
            first | refine a_go ?_ | refine a_no ?_ | refine a_may ?_
            refine a_go (hs := by (simp only [push_cast, flat_one] <;> rfl)) ?_
            refine a_op ?_
            refine a_op ?_
            first | refine a_go ?_ | refine a_no ?_ | refine a_may ?_
            refine a_callgo [.n 7] false (sum_good Γ (o ++ [l.flatten.drop a]) (by simp; omega) (by rw [hfl]; omega)) ?_
            first | refine a_go ?_ | refine a_no ?_ | refine a_may ?_
            refine a_go (hs := by (simp only [push_cast, flat_one, hfl] <;> rfl)) ?_
            refine a_op ?_
            refine a_op ?_
            refine a_callgo [] false (awake_good Γ) ?_
            refine a_op ?_
            refine a_op ?_
            refine s_nil (r_false ?_)
            refine q_next ?_
            refine k_ret ?_
            refine ⟨.inr rfl, a_ret [] (by rw [results5]) ?_ ?_ ?_⟩ <;> simp [-List.map_set, -List.map_replicate, -List.reduceReplicate, -List.map_map, -List.map_drop, -List.map_take, num, bol, txt, w8, w16, w32, w64, lst, cls, rowO, boxO, List.take_of_length_le]

end Go.Proofs.Try
