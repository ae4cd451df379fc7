/- Contracts of this program's functions. -/
import Derived.Test.YtnliecfmadifkaaDoorSL1
set_option maxHeartbeats 100000000
set_option maxRecDepth 100000
set_option linter.unusedVariables false
set_option linter.unusedSimpArgs false
namespace Go.Proofs.Tryd
open Go Go.Ot

attribute [push_cast] nowF_nil
theorem nowF_app (s : St4) (l : Chs) (m : Nat) (e : List UInt8) : nowF s (l ++ [(m, e)]) = upd (nowF s l) m e := by simp [nowF, wr]
theorem nowF_one (s : St4) (m : Nat) (e : List UInt8) : nowF s [(m, e)] = upd s m e := rfl
def W4 (l : Chs) : List (List UInt8) := [nowF (fun _ => []) l 0, nowF (fun _ => []) l 1, nowF (fun _ => []) l 2, nowF (fun _ => []) l 3]
@[simp, push_cast] theorem W4_len (l : Chs) : (W4 l).length = 4 := rfl
theorem W4_set (l : Chs) (m : Nat) (e : List UInt8) (h : m < 4) : (W4 l).set m e = W4 (l ++ [(m, e)]) := by
  rcases (show m = 0 ∨ m = 1 ∨ m = 2 ∨ m = 3 by omega) with rfl | rfl | rfl | rfl <;> simp [W4, nowF_app, upd]
theorem W4_set0 (m : Nat) (e : List UInt8) (h : m < 4) : (W4 []).set m e = W4 [(m, e)] := W4_set [] m e h
@[push_cast] theorem W4_0 (l : Chs) (d : List UInt8) : (W4 l).getD 0 d = nowF (fun _ => []) l 0 := rfl
@[push_cast] theorem W4_1 (l : Chs) (d : List UInt8) : (W4 l).getD 1 d = nowF (fun _ => []) l 1 := rfl
@[push_cast] theorem W4_2 (l : Chs) (d : List UInt8) : (W4 l).getD 2 d = nowF (fun _ => []) l 2 := rfl
@[push_cast] theorem W4_3 (l : Chs) (d : List UInt8) : (W4 l).getD 3 d = nowF (fun _ => []) l 3 := rfl
@[push_cast] theorem W4_c0 (l : Chs) : (List.map D.t (List.map txt (W4 l))).getD 0 D.bad = D.t (txt (nowF (fun _ => []) l 0)) := rfl
@[push_cast] theorem W4_c1 (l : Chs) : (List.map D.t (List.map txt (W4 l))).getD 1 D.bad = D.t (txt (nowF (fun _ => []) l 1)) := rfl
@[push_cast] theorem W4_c2 (l : Chs) : (List.map D.t (List.map txt (W4 l))).getD 2 D.bad = D.t (txt (nowF (fun _ => []) l 2)) := rfl
@[push_cast] theorem W4_c3 (l : Chs) : (List.map D.t (List.map txt (W4 l))).getD 3 D.bad = D.t (txt (nowF (fun _ => []) l 3)) := rfl
abbrev TQ2 := Nat × Bool × Chs × Bool × Chs
def TI2 (n : Nat) (q : TQ2) : Prop := q.1 ≤ n ∧ q.2.2.1.length ≤ q.1 ∧ q.2.2.2.2.length ≤ q.1 ∧ In4 q.2.2.1 ∧ In4 q.2.2.2.2 ∧ (q.2.1 = true → q.2.2.1 = []) ∧ (q.2.2.2.1 = true → q.2.2.2.2 = [])
attribute [local irreducible] wpK wpS seqK blockK loopF regK meetK OpSpec Le nowF fallF W4
theorem two_good (Γ : Gl) (hE : EG Γ) (is : List UInt8) (ll : List (List UInt8)) (b0 : is.length ≤ maxLen) (b1 : ll.length ≤ maxLen) : Go.Ot.Good Γ prog 3 [.t (lst w8 is), .t (lst txt ll)] [] (.t (bol true)) [] [] := by
  refine a_body F.mix func3 (by rfl) ntmps3 ?_
  refine k_seq ?_
  refine k_region rfl ?_
  refine a_op ?_
  refine s_nil (r_false ?_)
  refine q_next ?_
  refine k_seq ?_
  refine k_seq ?_
  refine k_region rfl ?_
  iterate 4 refine a_op ?_
  first | refine a_go ?_ | refine a_no ?_ | refine a_may ?_
  first | refine a_go ?_ | refine a_no ?_ | refine a_may ?_
  first | refine a_go ?_ | refine a_no ?_ | refine a_may ?_
  first | refine a_go ?_ | refine a_no ?_ | refine a_may ?_
  first | refine a_go ?_ | refine a_no ?_ | refine a_may ?_
  refine a_op ?_
  refine s_nil (r_false ?_)
  refine q_next ?_
  refine a_if (fun hc0 => ?_) (fun hc0 => ?_)
  · (try simp only [Bool.and_eq_true, Bool.or_eq_true, Bool.or_eq_false_iff, Bool.not_eq_true', Bool.not_eq_false', dec_t, dec_f, Bool.and_eq_false_imp, beq_iff_eq, beq_eq_false_iff_ne, ne_eq] at hc0)
    refine k_seq ?_
    refine k_region rfl ?_
    refine a_call [] false (awake_good Γ hE) ?_
    refine a_op ?_
    refine s_nil (r_false ?_)
    refine q_next ?_
    refine k_ret ?_
    refine q_seq_ret ?_
    refine ⟨.inr rfl, a_ret [] (by rw [results3]) ?_ ?_ ?_⟩ <;> simp [-List.map_set, -List.map_replicate, -List.reduceReplicate, -List.map_map, -List.map_drop, -List.map_take, num, bol, txt, w8, w16, w32, w64, lst, cls, rowO, boxO, List.take_of_length_le]
  · (try simp only [Bool.and_eq_true, Bool.or_eq_true, Bool.or_eq_false_iff, Bool.not_eq_true', Bool.not_eq_false', dec_t, dec_f, Bool.and_eq_false_imp, beq_iff_eq, beq_eq_false_iff_ne, ne_eq] at hc0)
    refine k_skip ?_
    refine q_next ?_
    refine k_seq ?_
    refine k_region rfl ?_
    refine a_op ?_
    refine a_call [] false (New_good Γ 0 (.v (.slice none 0 0))) ?_
    refine a_op ?_
    refine a_call [] false (New_good Γ 0 (.v (.slice none 0 0))) ?_
    refine a_op ?_
    refine a_op ?_
    refine s_nil (r_false ?_)
    refine q_next ?_
    refine k_seq ?_
    refine k_seq ?_
    refine k_region rfl ?_
    refine a_op ?_
    refine a_by (spec_ptrNil false rfl rfl (by kernel_rfl)) ?_
    refine a_op ?_
    refine a_go ?_
    refine a_bygo (spec_ptrNil false rfl rfl (by kernel_rfl)) ?_
    refine a_op ?_
    refine s_nil (r_false ?_)
    refine q_next ?_
    refine a_false ?_
    refine k_skip ?_
    refine q_next ?_
    refine k_seq ?_
    refine k_region rfl ?_
    iterate 4 refine a_opd ?_
    refine s_nil (r_true (by kernel_rfl) ?_)
    refine q_next ?_
    refine k_seq ?_
    refine k_seq ?_
    refine k_region rfl ?_
    refine a_op ?_
    refine s_nil (r_false ?_)
    refine q_next ?_
    refine k_block ?_
    refine k_loopF (fun sl L (q : TQ2) => ⟨setAll (setBad sl [4, 10, 11, 12, 13, 14, 15, 16, 17, 18, 19, 20, 21, 22, 23, 24, 25, 26, 27, 28, 29, 30, 31, 32, 33, 34, 35, 36, 37, 38, 39, 40, 41, 42, 43, 44, 45, 46, 47, 48, 49, 50, 51, 52, 53, 54, 55, 56, 57, 58, 59, 60, 61, 62, 63, 64, 65, 66, 67, 68, 69, 70, 71, 72, 73, 74, 75, 76, 77, 78, 79, 80, 81, 82, 83, 84, 85, 86, 87, 88, 89, 90, 91, 92, 93, 94, 95, 96, 97, 98, 99, 100, 101, 102, 103, 104, 105, 106, 107, 108, 109, 110, 111, 112, 113, 114, 115, 116, 117, 118, 119, 120, 121, 122, 123, 124, 125, 126, 127, 128, 129, 130, 131, 132, 133, 134]) [(9, .t (num q.1))], Go.Ot.look (putL (.r 3 1 0) (boxO 57 [.t (txt ((fun _ : Nat => ([] : List UInt8)) 0)), .t (txt ((fun _ : Nat => ([] : List UInt8)) 1)), .t (txt ((fun _ : Nat => ([] : List UInt8)) 2)), .t (txt ((fun _ : Nat => ([] : List UInt8)) 3)), loD q.2.1 (.r 15 6 0) q.2.2.1.length, .t (num (0)), .t (.v (.slice none 0 0)), .t (num ((q.2.2.1.length : Int))), .t (bol (false))]) (putL (.r 3 3 0) (boxO 57 [.t (txt ((fun _ : Nat => ([] : List UInt8)) 0)), .t (txt ((fun _ : Nat => ([] : List UInt8)) 1)), .t (txt ((fun _ : Nat => ([] : List UInt8)) 2)), .t (txt ((fun _ : Nat => ([] : List UInt8)) 3)), loD q.2.2.2.1 (.r 18 6 0) q.2.2.2.2.length, .t (num (0)), .t (.v (.slice none 0 0)), .t (num ((q.2.2.2.2.length : Int))), .t (bol (false))]) (putL (.r 6 0 0) (rowO 9 txt (W4 (q.2.2.1))) (putL (.r 6 1 0) (rowO 9 txt (W4 (q.2.2.2.2))) (rowL q.2.1 (.r 15 6 0) q.2.2.1 (rowL q.2.2.2.1 (.r 18 6 0) q.2.2.2.2 L))))))⟩) (TI2 is.length) (fun q => is.length - q.1) ((0, true, [], true, [])) (a_le ?_) ?_ ?_
    · refine le_same ?_ ?_ ?_ <;> simp [-List.map_set, -List.map_replicate, -List.reduceReplicate, -List.map_map, -List.map_drop, -List.map_take, num, bol, txt, w8, w16, w32, w64, lst, cls, rowO, boxO, List.take_of_length_le, nowF_nil, W4]
    · refine ⟨?_, ?_, ?_, ?_, ?_, ?_, ?_⟩ <;> simp only [] <;> first | omega | exact In4_nil | (simp; done)
    · rintro ⟨i, z1, l1, z2, l2⟩ ⟨hi, hl1, hl2, h41, h42, hz1, hz2⟩
      simp only at hi hl1 hl2 h41 h42 hz1 hz2
      have h6 : ((z1 = true ∧ l1 = []) ∧ (z2 = true ∧ l2 = [])) ∨ ((z1 = true ∧ l1 = []) ∧ z2 = false) ∨ (z1 = false ∧ (z2 = true ∧ l2 = [])) ∨ (z1 = false ∧ z2 = false) := by
        rcases z1 with _ | _ <;> rcases z2 with _ | _ <;> simp_all
      clear hz1 hz2
      rcases h6 with ⟨⟨rfl, rfl⟩, ⟨rfl, rfl⟩⟩ | ⟨⟨rfl, rfl⟩, rfl⟩ | ⟨rfl, ⟨rfl, rfl⟩⟩ | ⟨rfl, rfl⟩
      · refine a_st ?_
        refine k_seq ?_
        refine k_seq ?_
        refine k_region rfl ?_
        iterate 4 refine a_op ?_
        refine s_nil (r_false ?_)
        refine q_next ?_
        refine a_if (fun hc2 => ?_) (fun hc2 => ?_)
        · (try simp only [Bool.and_eq_true, Bool.or_eq_true, Bool.or_eq_false_iff, Bool.not_eq_true', Bool.not_eq_false', dec_t, dec_f, Bool.and_eq_false_imp, beq_iff_eq, beq_eq_false_iff_ne, ne_eq] at hc2)
          refine k_skip ?_
          refine q_next ?_
          refine k_seq ?_
          refine k_block ?_
          refine k_seq ?_
          refine k_seq ?_
          refine k_region rfl ?_
          iterate 4 refine a_op ?_
          obtain ⟨e, he⟩ : ∃ e, ll.getD i [] = e := ⟨_, rfl⟩
          simp only [he]
          refine a_op ?_
          refine a_op ?_
          refine s_nil (r_false ?_)
          refine q_next ?_
          refine a_if (fun hc3 => ?_) (fun hc3 => ?_)
          · (try simp only [Bool.and_eq_true, Bool.or_eq_true, Bool.or_eq_false_iff, Bool.not_eq_true', Bool.not_eq_false', dec_t, dec_f, Bool.and_eq_false_imp, beq_iff_eq, beq_eq_false_iff_ne, ne_eq] at hc3)
            refine k_seq ?_
            refine k_region rfl ?_
            refine a_call [] false (awake_good Γ hE) ?_
            refine a_op ?_
            refine s_nil (r_false ?_)
            refine q_next ?_
            refine k_ret ?_
            refine q_seq_ret (q_block_ret (q_seq_ret (q_loopF_ret (q_block_ret (q_seq_ret ?_)))))
            refine ⟨.inr rfl, a_ret [] (by rw [results3]) ?_ ?_ ?_⟩ <;> simp [-List.map_set, -List.map_replicate, -List.reduceReplicate, -List.map_map, -List.map_drop, -List.map_take, num, bol, txt, w8, w16, w32, w64, lst, cls, rowO, boxO, List.take_of_length_le]
          · (try simp only [Bool.and_eq_true, Bool.or_eq_true, Bool.or_eq_false_iff, Bool.not_eq_true', Bool.not_eq_false', dec_t, dec_f, Bool.and_eq_false_imp, beq_iff_eq, beq_eq_false_iff_ne, ne_eq] at hc3)
            refine k_skip ?_
            refine q_next ?_
            refine k_seq ?_
            refine k_region rfl ?_
            iterate 4 refine a_op ?_
            obtain ⟨e8, he8⟩ : ∃ e, is.getD i 0 = e := ⟨_, rfl⟩
            simp only [he8]
            have hx8 := e8.toNat_lt
            obtain ⟨m, hm, hm4⟩ : ∃ m : Nat, (e8.toNat : Int) / 2 % 4 = (m : Int) ∧ m < 4 := ⟨e8.toNat / 2 % 4, by omega, by omega⟩
            refine a_op ?_
            refine a_op ?_
            refine a_op (hs := by (simp (disch := omega) only [push_cast, hm] <;> rfl)) ?_
            refine a_op ?_
            refine s_nil (r_false ?_)
            refine q_next ?_
            refine k_seq ?_
            refine k_seq ?_
            refine k_region rfl ?_
            iterate 4 refine a_op ?_
            simp only [he8]
            refine a_op ?_
            refine a_op ?_
            refine s_nil (r_false ?_)
            refine q_next ?_
            refine a_if (fun hc4 => ?_) (fun hc4 => ?_)
            · (try simp only [Bool.and_eq_true, Bool.or_eq_true, Bool.or_eq_false_iff, Bool.not_eq_true', Bool.not_eq_false', dec_t, dec_f, Bool.and_eq_false_imp, beq_iff_eq, beq_eq_false_iff_ne, ne_eq] at hc4)
              refine k_seq ?_
              refine k_region rfl ?_
              skip
              · skip
                iterate 6 refine a_op ?_
                simp only [he]
                refine a_op ?_
                refine a_op ?_
                rw [W4_set0 m e hm4]
                refine s_nil (r_false ?_)
                refine q_next ?_
                refine k_seq ?_
                refine k_region rfl ?_
                iterate 6 refine a_op ?_
                simp only [he]
                refine a_callp [.r 3 1 0] [] [] false (wr_okN Γ (fun _ => []) 0 0 m e (by omega) (by omega) (by omega)) ?_
                refine a_call [] false (num_good Γ 0) ?_
                refine a_op ?_
                refine s_nil (r_false ?_)
                refine q_next ?_
                refine a_false ?_
                refine k_skip ?_
                refine q_next ?_
                refine k_seq ?_
                refine k_region rfl ?_
                refine a_op ?_
                refine s_nil (r_false ?_)
                refine q_next ?_
                refine k_block ?_
                refine k_loopF (fun sl L (j : Nat) => ⟨setAll (setBad sl [4, 12, 13, 14, 15, 16, 17, 18, 19, 20, 21, 22, 23, 24, 25, 26, 27, 28, 29, 30, 31, 32, 33, 34, 35, 36, 37, 38, 39, 40, 41, 42, 45, 46, 47, 48, 49, 50, 51, 52, 53, 54, 55, 56, 57, 58, 59, 60, 61, 62, 63, 64, 65, 66, 67, 68, 69, 70, 71, 72, 73, 74, 75, 76, 77, 78, 79, 80, 81, 82, 83, 84, 85, 86, 87, 88, 89, 90, 91, 92, 93, 94, 95, 96, 97, 98, 99, 100, 101, 102, 103, 104, 105, 106, 107, 108, 109, 110, 111, 112, 113, 114, 115, 116, 117, 118, 119, 120, 121, 122, 123, 124, 125, 126, 127, 128, 129, 130, 131, 132, 133, 134]) [(11, .t (num j))], Go.Ot.look (L)⟩) (fun j => j ≤ 4) (fun j => 4 - j) (0) (a_le ?_) ?_ ?_
                · refine le_same ?_ ?_ ?_ <;> simp [-List.map_set, -List.map_replicate, -List.reduceReplicate, -List.map_map, -List.map_drop, -List.map_take, num, bol, txt, w8, w16, w32, w64, lst, cls, rowO, boxO, List.take_of_length_le]
                · (first | omega | simp)
                · intro j hj
                  rcases (show j = 0 ∨ j = 1 ∨ j = 2 ∨ j = 3 ∨ j = 4 by omega) with rfl | rfl | rfl | rfl | rfl
                  · refine a_st ?_
                    refine k_seq ?_
                    refine k_seq ?_
                    refine k_region rfl ?_
                    refine a_op ?_
                    refine a_op ?_
                    refine s_nil (r_false ?_)
                    refine q_next ?_
                    refine a_true ?_
                    refine k_skip ?_
                    refine q_next ?_
                    refine k_seq ?_
                    refine k_block ?_
                    refine k_seq ?_
                    refine k_region rfl ?_
                    refine a_op ?_
                    refine a_op ?_
                    refine a_callp [.r 3 1 0, .r 15 6 0] [] [.r 15 6 0] false (rd_okR Γ (fun _ => []) [(m, e)] (by simp) (In4_snoc In4_nil (by omega)) 0 (0 + 1) 0 (by omega)) ?_
                    iterate 5 refine a_op ?_
                    refine s_nil (r_false ?_)
                    refine q_next ?_
                    refine k_seq ?_
                    refine k_region rfl ?_
                    refine a_op ?_
                    refine a_op ?_
                    refine a_callp [.r 3 3 0] [] [] false (rd_okN Γ (fun _ => []) 0 0 0 (by omega)) ?_
                    iterate 5 refine a_op ?_
                    refine s_nil (r_false ?_)
                    refine q_next ?_
                    refine k_seq ?_
                    refine k_region rfl ?_
                    iterate 7 refine a_op ?_
                    refine a_go ?_
                    refine a_go ?_
                    refine a_go ?_
                    refine a_go ?_
                    refine a_go ?_
                    refine a_go ?_
                    refine a_op ?_
                    refine a_op ?_
                    refine a_go ?_
                    refine a_callgo [] false (num_good Γ 0) ?_
                    refine a_go ?_
                    refine a_callgo [] false (num_good Γ 0) ?_
                    refine a_go ?_
                    refine a_go ?_
                    refine a_op ?_
                    refine s_nil (r_false ?_)
                    refine q_next ?_
                    refine a_false ?_
                    refine k_skip ?_
                    refine q_block (q_next ?_)
                    refine k_region rfl ?_
                    iterate 3 refine a_op ?_
                    refine s_nil (r_false ?_)
                    refine q_loopF (1) (a_le ?_) ?_ ?_
                    · refine le_same ?_ ?_ ?_ <;> simp [-List.map_set, -List.map_replicate, -List.reduceReplicate, -List.map_map, -List.map_drop, -List.map_take, num, bol, txt, w8, w16, w32, w64, lst, cls, rowO, boxO, List.take_of_length_le]
                    · (first | omega | (simp_all <;> omega))
                    · (first | omega | (simp only []; omega))
                  · refine a_st ?_
                    refine k_seq ?_
                    refine k_seq ?_
                    refine k_region rfl ?_
                    refine a_op ?_
                    refine a_op ?_
                    refine s_nil (r_false ?_)
                    refine q_next ?_
                    refine a_true ?_
                    refine k_skip ?_
                    refine q_next ?_
                    refine k_seq ?_
                    refine k_block ?_
                    refine k_seq ?_
                    refine k_region rfl ?_
                    refine a_op ?_
                    refine a_op ?_
                    refine a_callp [.r 3 1 0, .r 15 6 0] [] [.r 15 6 0] false (rd_okR Γ (fun _ => []) [(m, e)] (by simp) (In4_snoc In4_nil (by omega)) 0 (0 + 1) 1 (by omega)) ?_
                    iterate 5 refine a_op ?_
                    refine s_nil (r_false ?_)
                    refine q_next ?_
                    refine k_seq ?_
                    refine k_region rfl ?_
                    refine a_op ?_
                    refine a_op ?_
                    refine a_callp [.r 3 3 0] [] [] false (rd_okN Γ (fun _ => []) 0 0 1 (by omega)) ?_
                    iterate 5 refine a_op ?_
                    refine s_nil (r_false ?_)
                    refine q_next ?_
                    refine k_seq ?_
                    refine k_region rfl ?_
                    iterate 7 refine a_op ?_
                    refine a_go ?_
                    refine a_go ?_
                    refine a_go ?_
                    refine a_go ?_
                    refine a_go ?_
                    refine a_go ?_
                    refine a_op ?_
                    refine a_op ?_
                    refine a_go ?_
                    refine a_callgo [] false (num_good Γ 0) ?_
                    refine a_go ?_
                    refine a_callgo [] false (num_good Γ 0) ?_
                    refine a_go ?_
                    refine a_go ?_
                    refine a_op ?_
                    refine s_nil (r_false ?_)
                    refine q_next ?_
                    refine a_false ?_
                    refine k_skip ?_
                    refine q_block (q_next ?_)
                    refine k_region rfl ?_
                    iterate 3 refine a_op ?_
                    refine s_nil (r_false ?_)
                    refine q_loopF (2) (a_le ?_) ?_ ?_
                    · refine le_same ?_ ?_ ?_ <;> simp [-List.map_set, -List.map_replicate, -List.reduceReplicate, -List.map_map, -List.map_drop, -List.map_take, num, bol, txt, w8, w16, w32, w64, lst, cls, rowO, boxO, List.take_of_length_le]
                    · (first | omega | (simp_all <;> omega))
                    · (first | omega | (simp only []; omega))
                  · refine a_st ?_
                    refine k_seq ?_
                    refine k_seq ?_
                    refine k_region rfl ?_
                    refine a_op ?_
                    refine a_op ?_
                    refine s_nil (r_false ?_)
                    refine q_next ?_
                    refine a_true ?_
                    refine k_skip ?_
                    refine q_next ?_
                    refine k_seq ?_
                    refine k_block ?_
                    refine k_seq ?_
                    refine k_region rfl ?_
                    refine a_op ?_
                    refine a_op ?_
                    refine a_callp [.r 3 1 0, .r 15 6 0] [] [.r 15 6 0] false (rd_okR Γ (fun _ => []) [(m, e)] (by simp) (In4_snoc In4_nil (by omega)) 0 (0 + 1) 2 (by omega)) ?_
                    iterate 5 refine a_op ?_
                    refine s_nil (r_false ?_)
                    refine q_next ?_
                    refine k_seq ?_
                    refine k_region rfl ?_
                    refine a_op ?_
                    refine a_op ?_
                    refine a_callp [.r 3 3 0] [] [] false (rd_okN Γ (fun _ => []) 0 0 2 (by omega)) ?_
                    iterate 5 refine a_op ?_
                    refine s_nil (r_false ?_)
                    refine q_next ?_
                    refine k_seq ?_
                    refine k_region rfl ?_
                    iterate 7 refine a_op ?_
                    refine a_go ?_
                    refine a_go ?_
                    refine a_go ?_
                    refine a_go ?_
                    refine a_go ?_
                    refine a_go ?_
                    refine a_op ?_
                    refine a_op ?_
                    refine a_go ?_
                    refine a_callgo [] false (num_good Γ 0) ?_
                    refine a_go ?_
                    refine a_callgo [] false (num_good Γ 0) ?_
                    refine a_go ?_
                    refine a_go ?_
                    refine a_op ?_
                    refine s_nil (r_false ?_)
                    refine q_next ?_
                    refine a_false ?_
                    refine k_skip ?_
                    refine q_block (q_next ?_)
                    refine k_region rfl ?_
                    iterate 3 refine a_op ?_
                    refine s_nil (r_false ?_)
                    refine q_loopF (3) (a_le ?_) ?_ ?_
                    · refine le_same ?_ ?_ ?_ <;> simp [-List.map_set, -List.map_replicate, -List.reduceReplicate, -List.map_map, -List.map_drop, -List.map_take, num, bol, txt, w8, w16, w32, w64, lst, cls, rowO, boxO, List.take_of_length_le]
                    · (first | omega | (simp_all <;> omega))
                    · (first | omega | (simp only []; omega))
                  · refine a_st ?_
                    refine k_seq ?_
                    refine k_seq ?_
                    refine k_region rfl ?_
                    refine a_op ?_
                    refine a_op ?_
                    refine s_nil (r_false ?_)
                    refine q_next ?_
                    refine a_true ?_
                    refine k_skip ?_
                    refine q_next ?_
                    refine k_seq ?_
                    refine k_block ?_
                    refine k_seq ?_
                    refine k_region rfl ?_
                    refine a_op ?_
                    refine a_op ?_
                    refine a_callp [.r 3 1 0, .r 15 6 0] [] [.r 15 6 0] false (rd_okR Γ (fun _ => []) [(m, e)] (by simp) (In4_snoc In4_nil (by omega)) 0 (0 + 1) 3 (by omega)) ?_
                    iterate 5 refine a_op ?_
                    refine s_nil (r_false ?_)
                    refine q_next ?_
                    refine k_seq ?_
                    refine k_region rfl ?_
                    refine a_op ?_
                    refine a_op ?_
                    refine a_callp [.r 3 3 0] [] [] false (rd_okN Γ (fun _ => []) 0 0 3 (by omega)) ?_
                    iterate 5 refine a_op ?_
                    refine s_nil (r_false ?_)
                    refine q_next ?_
                    refine k_seq ?_
                    refine k_region rfl ?_
                    iterate 7 refine a_op ?_
                    refine a_go ?_
                    refine a_go ?_
                    refine a_go ?_
                    refine a_go ?_
                    refine a_go ?_
                    refine a_go ?_
                    refine a_op ?_
                    refine a_op ?_
                    refine a_go ?_
                    refine a_callgo [] false (num_good Γ 0) ?_
                    refine a_go ?_
                    refine a_callgo [] false (num_good Γ 0) ?_
                    refine a_go ?_
                    refine a_go ?_
                    refine a_op ?_
                    refine s_nil (r_false ?_)
                    refine q_next ?_
                    refine a_false ?_
                    refine k_skip ?_
                    refine q_block (q_next ?_)
                    refine k_region rfl ?_
                    iterate 3 refine a_op ?_
                    refine s_nil (r_false ?_)
                    refine q_loopF (4) (a_le ?_) ?_ ?_
                    · refine le_same ?_ ?_ ?_ <;> simp [-List.map_set, -List.map_replicate, -List.reduceReplicate, -List.map_map, -List.map_drop, -List.map_take, num, bol, txt, w8, w16, w32, w64, lst, cls, rowO, boxO, List.take_of_length_le]
                    · (first | omega | (simp_all <;> omega))
                    · (first | omega | (simp only []; omega))
                  · refine a_st ?_
                    refine k_seq ?_
                    refine k_seq ?_
                    refine k_region rfl ?_
                    refine a_op ?_
                    refine a_op ?_
                    refine s_nil (r_false ?_)
                    refine q_next ?_
                    refine a_false ?_
                    refine k_exit ?_
                    refine q_seq_exit (q_loopF_exit (q_block_exit (q_block (q_next ?_))))
                    refine k_region rfl ?_
                    iterate 3 refine a_op ?_
                    refine s_nil (r_false ?_)
                    refine q_loopF ((i + 1, false, [(m, e)], true, [])) (a_le ?_) ?_ ?_
                    · refine le_same ?_ ?_ ?_ <;> simp [-List.map_set, -List.map_replicate, -List.reduceReplicate, -List.map_map, -List.map_drop, -List.map_take, num, bol, txt, w8, w16, w32, w64, lst, cls, rowO, boxO, List.take_of_length_le, chL_app, chL]
                    · refine ⟨?_, ?_, ?_, ?_, ?_, ?_, ?_⟩ <;> simp only [List.length_append, List.length_cons, List.length_nil] <;> first | omega | exact In4_nil | exact In4_snoc h41 hm4 | exact In4_snoc h42 hm4 | exact In4_snoc In4_nil hm4 | exact h41 | exact h42 | (intro _; trivial) | (intro h; cases h) | (simp; done)
                    · simp only []; omega
            · (try simp only [Bool.and_eq_true, Bool.or_eq_true, Bool.or_eq_false_iff, Bool.not_eq_true', Bool.not_eq_false', dec_t, dec_f, Bool.and_eq_false_imp, beq_iff_eq, beq_eq_false_iff_ne, ne_eq] at hc4)
              refine k_seq ?_
              refine k_region rfl ?_
              skip
              · skip
                iterate 6 refine a_op ?_
                simp only [he]
                refine a_op ?_
                refine a_op ?_
                rw [W4_set0 m e hm4]
                refine s_nil (r_false ?_)
                refine q_next ?_
                refine k_seq ?_
                refine k_region rfl ?_
                iterate 6 refine a_op ?_
                simp only [he]
                refine a_callp [.r 3 3 0] [] [] false (wr_okN Γ (fun _ => []) 0 0 m e (by omega) (by omega) (by omega)) ?_
                refine a_call [] false (num_good Γ 0) ?_
                refine a_op ?_
                refine s_nil (r_false ?_)
                refine q_next ?_
                refine a_false ?_
                refine k_skip ?_
                refine q_next ?_
                refine k_seq ?_
                refine k_region rfl ?_
                refine a_op ?_
                refine s_nil (r_false ?_)
                refine q_next ?_
                refine k_block ?_
                refine k_loopF (fun sl L (j : Nat) => ⟨setAll (setBad sl [4, 12, 13, 14, 15, 16, 17, 18, 19, 20, 21, 22, 23, 24, 25, 26, 27, 28, 29, 30, 31, 32, 33, 34, 35, 36, 37, 38, 39, 40, 41, 42, 45, 46, 47, 48, 49, 50, 51, 52, 53, 54, 55, 56, 57, 58, 59, 60, 61, 62, 63, 64, 65, 66, 67, 68, 69, 70, 71, 72, 73, 74, 75, 76, 77, 78, 79, 80, 81, 82, 83, 84, 85, 86, 87, 88, 89, 90, 91, 92, 93, 94, 95, 96, 97, 98, 99, 100, 101, 102, 103, 104, 105, 106, 107, 108, 109, 110, 111, 112, 113, 114, 115, 116, 117, 118, 119, 120, 121, 122, 123, 124, 125, 126, 127, 128, 129, 130, 131, 132, 133, 134]) [(11, .t (num j))], Go.Ot.look (L)⟩) (fun j => j ≤ 4) (fun j => 4 - j) (0) (a_le ?_) ?_ ?_
                · refine le_same ?_ ?_ ?_ <;> simp [-List.map_set, -List.map_replicate, -List.reduceReplicate, -List.map_map, -List.map_drop, -List.map_take, num, bol, txt, w8, w16, w32, w64, lst, cls, rowO, boxO, List.take_of_length_le]
                · (first | omega | simp)
                · intro j hj
                  rcases (show j = 0 ∨ j = 1 ∨ j = 2 ∨ j = 3 ∨ j = 4 by omega) with rfl | rfl | rfl | rfl | rfl
                  · refine a_st ?_
                    refine k_seq ?_
                    refine k_seq ?_
                    refine k_region rfl ?_
                    refine a_op ?_
                    refine a_op ?_
                    refine s_nil (r_false ?_)
                    refine q_next ?_
                    refine a_true ?_
                    refine k_skip ?_
                    refine q_next ?_
                    refine k_seq ?_
                    refine k_block ?_
                    refine k_seq ?_
                    refine k_region rfl ?_
                    refine a_op ?_
                    refine a_op ?_
                    refine a_callp [.r 3 1 0] [] [] false (rd_okN Γ (fun _ => []) 0 0 0 (by omega)) ?_
                    iterate 5 refine a_op ?_
                    refine s_nil (r_false ?_)
                    refine q_next ?_
                    refine k_seq ?_
                    refine k_region rfl ?_
                    refine a_op ?_
                    refine a_op ?_
                    refine a_callp [.r 3 3 0, .r 18 6 0] [] [.r 18 6 0] false (rd_okR Γ (fun _ => []) [(m, e)] (by simp) (In4_snoc In4_nil (by omega)) 0 (0 + 1) 0 (by omega)) ?_
                    iterate 5 refine a_op ?_
                    refine s_nil (r_false ?_)
                    refine q_next ?_
                    refine k_seq ?_
                    refine k_region rfl ?_
                    iterate 7 refine a_op ?_
                    refine a_go ?_
                    refine a_go ?_
                    refine a_go ?_
                    refine a_go ?_
                    refine a_go ?_
                    refine a_go ?_
                    refine a_op ?_
                    refine a_op ?_
                    refine a_go ?_
                    refine a_callgo [] false (num_good Γ 0) ?_
                    refine a_go ?_
                    refine a_callgo [] false (num_good Γ 0) ?_
                    refine a_go ?_
                    refine a_go ?_
                    refine a_op ?_
                    refine s_nil (r_false ?_)
                    refine q_next ?_
                    refine a_false ?_
                    refine k_skip ?_
                    refine q_block (q_next ?_)
                    refine k_region rfl ?_
                    iterate 3 refine a_op ?_
                    refine s_nil (r_false ?_)
                    refine q_loopF (1) (a_le ?_) ?_ ?_
                    · refine le_same ?_ ?_ ?_ <;> simp [-List.map_set, -List.map_replicate, -List.reduceReplicate, -List.map_map, -List.map_drop, -List.map_take, num, bol, txt, w8, w16, w32, w64, lst, cls, rowO, boxO, List.take_of_length_le]
                    · (first | omega | (simp_all <;> omega))
                    · (first | omega | (simp only []; omega))
                  · refine a_st ?_
                    refine k_seq ?_
                    refine k_seq ?_
                    refine k_region rfl ?_
                    refine a_op ?_
                    refine a_op ?_
                    refine s_nil (r_false ?_)
                    refine q_next ?_
                    refine a_true ?_
                    refine k_skip ?_
                    refine q_next ?_
                    refine k_seq ?_
                    refine k_block ?_
                    refine k_seq ?_
                    refine k_region rfl ?_
                    refine a_op ?_
                    refine a_op ?_
                    refine a_callp [.r 3 1 0] [] [] false (rd_okN Γ (fun _ => []) 0 0 1 (by omega)) ?_
                    iterate 5 refine a_op ?_
                    refine s_nil (r_false ?_)
                    refine q_next ?_
                    refine k_seq ?_
                    refine k_region rfl ?_
                    refine a_op ?_
                    refine a_op ?_
                    refine a_callp [.r 3 3 0, .r 18 6 0] [] [.r 18 6 0] false (rd_okR Γ (fun _ => []) [(m, e)] (by simp) (In4_snoc In4_nil (by omega)) 0 (0 + 1) 1 (by omega)) ?_
                    iterate 5 refine a_op ?_
                    refine s_nil (r_false ?_)
                    refine q_next ?_
                    refine k_seq ?_
                    refine k_region rfl ?_
                    iterate 7 refine a_op ?_
                    refine a_go ?_
                    refine a_go ?_
                    refine a_go ?_
                    refine a_go ?_
                    refine a_go ?_
                    refine a_go ?_
                    refine a_op ?_
                    refine a_op ?_
                    refine a_go ?_
                    refine a_callgo [] false (num_good Γ 0) ?_
                    refine a_go ?_
                    refine a_callgo [] false (num_good Γ 0) ?_
                    refine a_go ?_
                    refine a_go ?_
                    refine a_op ?_
                    refine s_nil (r_false ?_)
                    refine q_next ?_
                    refine a_false ?_
                    refine k_skip ?_
                    refine q_block (q_next ?_)
                    refine k_region rfl ?_
                    iterate 3 refine a_op ?_
                    refine s_nil (r_false ?_)
                    refine q_loopF (2) (a_le ?_) ?_ ?_
                    · refine le_same ?_ ?_ ?_ <;> simp [-List.map_set, -List.map_replicate, -List.reduceReplicate, -List.map_map, -List.map_drop, -List.map_take, num, bol, txt, w8, w16, w32, w64, lst, cls, rowO, boxO, List.take_of_length_le]
                    · (first | omega | (simp_all <;> omega))
                    · (first | omega | (simp only []; omega))
                  · refine a_st ?_
                    refine k_seq ?_
                    refine k_seq ?_
                    refine k_region rfl ?_
                    refine a_op ?_
                    refine a_op ?_
                    refine s_nil (r_false ?_)
                    refine q_next ?_
                    refine a_true ?_
                    refine k_skip ?_
                    refine q_next ?_
                    refine k_seq ?_
                    refine k_block ?_
                    refine k_seq ?_
                    refine k_region rfl ?_
                    refine a_op ?_
                    refine a_op ?_
                    refine a_callp [.r 3 1 0] [] [] false (rd_okN Γ (fun _ => []) 0 0 2 (by omega)) ?_
                    iterate 5 refine a_op ?_
                    refine s_nil (r_false ?_)
                    refine q_next ?_
                    refine k_seq ?_
                    refine k_region rfl ?_
                    refine a_op ?_
                    refine a_op ?_
                    refine a_callp [.r 3 3 0, .r 18 6 0] [] [.r 18 6 0] false (rd_okR Γ (fun _ => []) [(m, e)] (by simp) (In4_snoc In4_nil (by omega)) 0 (0 + 1) 2 (by omega)) ?_
                    iterate 5 refine a_op ?_
                    refine s_nil (r_false ?_)
                    refine q_next ?_
                    refine k_seq ?_
                    refine k_region rfl ?_
                    iterate 7 refine a_op ?_
                    refine a_go ?_
                    refine a_go ?_
                    refine a_go ?_
                    refine a_go ?_
                    refine a_go ?_
                    refine a_go ?_
                    refine a_op ?_
                    refine a_op ?_
                    refine a_go ?_
                    refine a_callgo [] false (num_good Γ 0) ?_
                    refine a_go ?_
                    refine a_callgo [] false (num_good Γ 0) ?_
                    refine a_go ?_
                    refine a_go ?_
                    refine a_op ?_
                    refine s_nil (r_false ?_)
                    refine q_next ?_
                    refine a_false ?_
                    refine k_skip ?_
                    refine q_block (q_next ?_)
                    refine k_region rfl ?_
                    iterate 3 refine a_op ?_
                    refine s_nil (r_false ?_)
                    refine q_loopF (3) (a_le ?_) ?_ ?_
                    · refine le_same ?_ ?_ ?_ <;> simp [-List.map_set, -List.map_replicate, -List.reduceReplicate, -List.map_map, -List.map_drop, -List.map_take, num, bol, txt, w8, w16, w32, w64, lst, cls, rowO, boxO, List.take_of_length_le]
                    · (first | omega | (simp_all <;> omega))
                    · (first | omega | (simp only []; omega))
                  · refine a_st ?_
                    refine k_seq ?_
                    refine k_seq ?_
                    refine k_region rfl ?_
                    refine a_op ?_
                    refine a_op ?_
                    refine s_nil (r_false ?_)
                    refine q_next ?_
                    refine a_true ?_
                    refine k_skip ?_
                    refine q_next ?_
                    refine k_seq ?_
                    refine k_block ?_
                    refine k_seq ?_
                    refine k_region rfl ?_
                    refine a_op ?_
                    refine a_op ?_
                    refine a_callp [.r 3 1 0] [] [] false (rd_okN Γ (fun _ => []) 0 0 3 (by omega)) ?_
                    iterate 5 refine a_op ?_
                    refine s_nil (r_false ?_)
                    refine q_next ?_
                    refine k_seq ?_
                    refine k_region rfl ?_
                    refine a_op ?_
                    refine a_op ?_
                    refine a_callp [.r 3 3 0, .r 18 6 0] [] [.r 18 6 0] false (rd_okR Γ (fun _ => []) [(m, e)] (by simp) (In4_snoc In4_nil (by omega)) 0 (0 + 1) 3 (by omega)) ?_
                    iterate 5 refine a_op ?_
                    refine s_nil (r_false ?_)
                    refine q_next ?_
                    refine k_seq ?_
                    refine k_region rfl ?_
                    iterate 7 refine a_op ?_
                    refine a_go ?_
                    refine a_go ?_
                    refine a_go ?_
                    refine a_go ?_
                    refine a_go ?_
                    refine a_go ?_
                    refine a_op ?_
                    refine a_op ?_
                    refine a_go ?_
                    refine a_callgo [] false (num_good Γ 0) ?_
                    refine a_go ?_
                    refine a_callgo [] false (num_good Γ 0) ?_
                    refine a_go ?_
                    refine a_go ?_
                    refine a_op ?_
                    refine s_nil (r_false ?_)
                    refine q_next ?_
                    refine a_false ?_
                    refine k_skip ?_
                    refine q_block (q_next ?_)
                    refine k_region rfl ?_
                    iterate 3 refine a_op ?_
                    refine s_nil (r_false ?_)
                    refine q_loopF (4) (a_le ?_) ?_ ?_
                    · refine le_same ?_ ?_ ?_ <;> simp [-List.map_set, -List.map_replicate, -List.reduceReplicate, -List.map_map, -List.map_drop, -List.map_take, num, bol, txt, w8, w16, w32, w64, lst, cls, rowO, boxO, List.take_of_length_le]
                    · (first | omega | (simp_all <;> omega))
                    · (first | omega | (simp only []; omega))
                  · refine a_st ?_
                    refine k_seq ?_
                    refine k_seq ?_
                    refine k_region rfl ?_
                    refine a_op ?_
                    refine a_op ?_
                    refine s_nil (r_false ?_)
                    refine q_next ?_
                    refine a_false ?_
                    refine k_exit ?_
                    refine q_seq_exit (q_loopF_exit (q_block_exit (q_block (q_next ?_))))
                    refine k_region rfl ?_
                    iterate 3 refine a_op ?_
                    refine s_nil (r_false ?_)
                    refine q_loopF ((i + 1, true, [], false, [(m, e)])) (a_le ?_) ?_ ?_
                    · refine le_same ?_ ?_ ?_ <;> simp [-List.map_set, -List.map_replicate, -List.reduceReplicate, -List.map_map, -List.map_drop, -List.map_take, num, bol, txt, w8, w16, w32, w64, lst, cls, rowO, boxO, List.take_of_length_le, chL_app, chL]
                    · refine ⟨?_, ?_, ?_, ?_, ?_, ?_, ?_⟩ <;> simp only [List.length_append, List.length_cons, List.length_nil] <;> first | omega | exact In4_nil | exact In4_snoc h41 hm4 | exact In4_snoc h42 hm4 | exact In4_snoc In4_nil hm4 | exact h41 | exact h42 | (intro _; trivial) | (intro h; cases h) | (simp; done)
                    · simp only []; omega
        · (try simp only [Bool.and_eq_true, Bool.or_eq_true, Bool.or_eq_false_iff, Bool.not_eq_true', Bool.not_eq_false', dec_t, dec_f, Bool.and_eq_false_imp, beq_iff_eq, beq_eq_false_iff_ne, ne_eq] at hc2)
          refine k_exit ?_
          refine q_seq_exit (q_loopF_exit (q_block_exit (q_next ?_)))
          refine k_seq ?_
          refine k_region rfl ?_
          refine a_call [] false (awake_good Γ hE) ?_
          refine a_op ?_
          refine s_nil (r_false ?_)
          refine q_next ?_
          refine k_ret ?_
          refine ⟨.inr rfl, a_ret [] (by rw [results3]) ?_ ?_ ?_⟩ <;> simp [-List.map_set, -List.map_replicate, -List.reduceReplicate, -List.map_map, -List.map_drop, -List.map_take, num, bol, txt, w8, w16, w32, w64, lst, cls, rowO, boxO, List.take_of_length_le]
      · refine a_st ?_
        refine k_seq ?_
        refine k_seq ?_
        refine k_region rfl ?_
        iterate 4 refine a_op ?_
        refine s_nil (r_false ?_)
        refine q_next ?_
        refine a_if (fun hc2 => ?_) (fun hc2 => ?_)
        · (try simp only [Bool.and_eq_true, Bool.or_eq_true, Bool.or_eq_false_iff, Bool.not_eq_true', Bool.not_eq_false', dec_t, dec_f, Bool.and_eq_false_imp, beq_iff_eq, beq_eq_false_iff_ne, ne_eq] at hc2)
          refine k_skip ?_
          refine q_next ?_
          refine k_seq ?_
          refine k_block ?_
          refine k_seq ?_
          refine k_seq ?_
          refine k_region rfl ?_
          iterate 4 refine a_op ?_
          obtain ⟨e, he⟩ : ∃ e, ll.getD i [] = e := ⟨_, rfl⟩
          simp only [he]
          refine a_op ?_
          refine a_op ?_
          refine s_nil (r_false ?_)
          refine q_next ?_
          refine a_if (fun hc3 => ?_) (fun hc3 => ?_)
          · (try simp only [Bool.and_eq_true, Bool.or_eq_true, Bool.or_eq_false_iff, Bool.not_eq_true', Bool.not_eq_false', dec_t, dec_f, Bool.and_eq_false_imp, beq_iff_eq, beq_eq_false_iff_ne, ne_eq] at hc3)
            refine k_seq ?_
            refine k_region rfl ?_
            refine a_call [] false (awake_good Γ hE) ?_
            refine a_op ?_
            refine s_nil (r_false ?_)
            refine q_next ?_
            refine k_ret ?_
            refine q_seq_ret (q_block_ret (q_seq_ret (q_loopF_ret (q_block_ret (q_seq_ret ?_)))))
            refine ⟨.inr rfl, a_ret [] (by rw [results3]) ?_ ?_ ?_⟩ <;> simp [-List.map_set, -List.map_replicate, -List.reduceReplicate, -List.map_map, -List.map_drop, -List.map_take, num, bol, txt, w8, w16, w32, w64, lst, cls, rowO, boxO, List.take_of_length_le]
          · (try simp only [Bool.and_eq_true, Bool.or_eq_true, Bool.or_eq_false_iff, Bool.not_eq_true', Bool.not_eq_false', dec_t, dec_f, Bool.and_eq_false_imp, beq_iff_eq, beq_eq_false_iff_ne, ne_eq] at hc3)
            refine k_skip ?_
            refine q_next ?_
            refine k_seq ?_
            refine k_region rfl ?_
            iterate 4 refine a_op ?_
            obtain ⟨e8, he8⟩ : ∃ e, is.getD i 0 = e := ⟨_, rfl⟩
            simp only [he8]
            have hx8 := e8.toNat_lt
            obtain ⟨m, hm, hm4⟩ : ∃ m : Nat, (e8.toNat : Int) / 2 % 4 = (m : Int) ∧ m < 4 := ⟨e8.toNat / 2 % 4, by omega, by omega⟩
            refine a_op ?_
            refine a_op ?_
            refine a_op (hs := by (simp (disch := omega) only [push_cast, hm] <;> rfl)) ?_
            refine a_op ?_
            refine s_nil (r_false ?_)
            refine q_next ?_
            refine k_seq ?_
            refine k_seq ?_
            refine k_region rfl ?_
            iterate 4 refine a_op ?_
            simp only [he8]
            refine a_op ?_
            refine a_op ?_
            refine s_nil (r_false ?_)
            refine q_next ?_
            refine a_if (fun hc4 => ?_) (fun hc4 => ?_)
            · (try simp only [Bool.and_eq_true, Bool.or_eq_true, Bool.or_eq_false_iff, Bool.not_eq_true', Bool.not_eq_false', dec_t, dec_f, Bool.and_eq_false_imp, beq_iff_eq, beq_eq_false_iff_ne, ne_eq] at hc4)
              refine k_seq ?_
              refine k_region rfl ?_
              skip
              · skip
                iterate 6 refine a_op ?_
                simp only [he]
                refine a_op ?_
                refine a_op ?_
                rw [W4_set0 m e hm4]
                refine s_nil (r_false ?_)
                refine q_next ?_
                refine k_seq ?_
                refine k_region rfl ?_
                iterate 6 refine a_op ?_
                simp only [he]
                refine a_callp [.r 3 1 0] [] [] false (wr_okN Γ (fun _ => []) 0 0 m e (by omega) (by omega) (by omega)) ?_
                refine a_call [] false (num_good Γ 0) ?_
                refine a_op ?_
                refine s_nil (r_false ?_)
                refine q_next ?_
                refine a_false ?_
                refine k_skip ?_
                refine q_next ?_
                refine k_seq ?_
                refine k_region rfl ?_
                refine a_op ?_
                refine s_nil (r_false ?_)
                refine q_next ?_
                refine k_block ?_
                refine k_loopF (fun sl L (j : Nat) => ⟨setAll (setBad sl [4, 12, 13, 14, 15, 16, 17, 18, 19, 20, 21, 22, 23, 24, 25, 26, 27, 28, 29, 30, 31, 32, 33, 34, 35, 36, 37, 38, 39, 40, 41, 42, 45, 46, 47, 48, 49, 50, 51, 52, 53, 54, 55, 56, 57, 58, 59, 60, 61, 62, 63, 64, 65, 66, 67, 68, 69, 70, 71, 72, 73, 74, 75, 76, 77, 78, 79, 80, 81, 82, 83, 84, 85, 86, 87, 88, 89, 90, 91, 92, 93, 94, 95, 96, 97, 98, 99, 100, 101, 102, 103, 104, 105, 106, 107, 108, 109, 110, 111, 112, 113, 114, 115, 116, 117, 118, 119, 120, 121, 122, 123, 124, 125, 126, 127, 128, 129, 130, 131, 132, 133, 134]) [(11, .t (num j))], Go.Ot.look (L)⟩) (fun j => j ≤ 4) (fun j => 4 - j) (0) (a_le ?_) ?_ ?_
                · refine le_same ?_ ?_ ?_ <;> simp [-List.map_set, -List.map_replicate, -List.reduceReplicate, -List.map_map, -List.map_drop, -List.map_take, num, bol, txt, w8, w16, w32, w64, lst, cls, rowO, boxO, List.take_of_length_le]
                · (first | omega | simp)
                · intro j hj
                  rcases (show j = 0 ∨ j = 1 ∨ j = 2 ∨ j = 3 ∨ j = 4 by omega) with rfl | rfl | rfl | rfl | rfl
                  · refine a_st ?_
                    refine k_seq ?_
                    refine k_seq ?_
                    refine k_region rfl ?_
                    refine a_op ?_
                    refine a_op ?_
                    refine s_nil (r_false ?_)
                    refine q_next ?_
                    refine a_true ?_
                    refine k_skip ?_
                    refine q_next ?_
                    refine k_seq ?_
                    refine k_block ?_
                    refine k_seq ?_
                    refine k_region rfl ?_
                    refine a_op ?_
                    refine a_op ?_
                    refine a_callp [.r 3 1 0, .r 15 6 0] [] [.r 15 6 0] false (rd_okR Γ (fun _ => []) [(m, e)] (by simp) (In4_snoc In4_nil (by omega)) 0 (0 + 1) 0 (by omega)) ?_
                    iterate 5 refine a_op ?_
                    refine s_nil (r_false ?_)
                    refine q_next ?_
                    refine k_seq ?_
                    refine k_region rfl ?_
                    refine a_op ?_
                    refine a_op ?_
                    refine a_callp [.r 3 3 0, .r 18 6 0] [] [.r 18 6 0] false (rd_okR Γ (fun _ => []) l2 (by omega) h42 0 l2.length 0 (by omega)) ?_
                    iterate 5 refine a_op ?_
                    refine s_nil (r_false ?_)
                    refine q_next ?_
                    refine k_seq ?_
                    refine k_region rfl ?_
                    iterate 7 refine a_op ?_
                    refine a_go ?_
                    refine a_go ?_
                    refine a_go ?_
                    refine a_go ?_
                    refine a_go ?_
                    refine a_go ?_
                    refine a_op ?_
                    refine a_op ?_
                    refine a_go ?_
                    refine a_callgo [] false (num_good Γ 0) ?_
                    refine a_go ?_
                    refine a_callgo [] false (num_good Γ 0) ?_
                    refine a_go ?_
                    refine a_go ?_
                    refine a_op ?_
                    refine s_nil (r_false ?_)
                    refine q_next ?_
                    refine a_false ?_
                    refine k_skip ?_
                    refine q_block (q_next ?_)
                    refine k_region rfl ?_
                    iterate 3 refine a_op ?_
                    refine s_nil (r_false ?_)
                    refine q_loopF (1) (a_le ?_) ?_ ?_
                    · refine le_same ?_ ?_ ?_ <;> simp [-List.map_set, -List.map_replicate, -List.reduceReplicate, -List.map_map, -List.map_drop, -List.map_take, num, bol, txt, w8, w16, w32, w64, lst, cls, rowO, boxO, List.take_of_length_le]
                    · (first | omega | (simp_all <;> omega))
                    · (first | omega | (simp only []; omega))
                  · refine a_st ?_
                    refine k_seq ?_
                    refine k_seq ?_
                    refine k_region rfl ?_
                    refine a_op ?_
                    refine a_op ?_
                    refine s_nil (r_false ?_)
                    refine q_next ?_
                    refine a_true ?_
                    refine k_skip ?_
                    refine q_next ?_
                    refine k_seq ?_
                    refine k_block ?_
                    refine k_seq ?_
                    refine k_region rfl ?_
                    refine a_op ?_
                    refine a_op ?_
                    refine a_callp [.r 3 1 0, .r 15 6 0] [] [.r 15 6 0] false (rd_okR Γ (fun _ => []) [(m, e)] (by simp) (In4_snoc In4_nil (by omega)) 0 (0 + 1) 1 (by omega)) ?_
                    iterate 5 refine a_op ?_
                    refine s_nil (r_false ?_)
                    refine q_next ?_
                    refine k_seq ?_
                    refine k_region rfl ?_
                    refine a_op ?_
                    refine a_op ?_
                    refine a_callp [.r 3 3 0, .r 18 6 0] [] [.r 18 6 0] false (rd_okR Γ (fun _ => []) l2 (by omega) h42 0 l2.length 1 (by omega)) ?_
                    iterate 5 refine a_op ?_
                    refine s_nil (r_false ?_)
                    refine q_next ?_
                    refine k_seq ?_
                    refine k_region rfl ?_
                    iterate 7 refine a_op ?_
                    refine a_go ?_
                    refine a_go ?_
                    refine a_go ?_
                    refine a_go ?_
                    refine a_go ?_
                    refine a_go ?_
                    refine a_op ?_
                    refine a_op ?_
                    refine a_go ?_
                    refine a_callgo [] false (num_good Γ 0) ?_
                    refine a_go ?_
                    refine a_callgo [] false (num_good Γ 0) ?_
                    refine a_go ?_
                    refine a_go ?_
                    refine a_op ?_
                    refine s_nil (r_false ?_)
                    refine q_next ?_
                    refine a_false ?_
                    refine k_skip ?_
                    refine q_block (q_next ?_)
                    refine k_region rfl ?_
                    iterate 3 refine a_op ?_
                    refine s_nil (r_false ?_)
                    refine q_loopF (2) (a_le ?_) ?_ ?_
                    · refine le_same ?_ ?_ ?_ <;> simp [-List.map_set, -List.map_replicate, -List.reduceReplicate, -List.map_map, -List.map_drop, -List.map_take, num, bol, txt, w8, w16, w32, w64, lst, cls, rowO, boxO, List.take_of_length_le]
                    · (first | omega | (simp_all <;> omega))
                    · (first | omega | (simp only []; omega))
                  · refine a_st ?_
                    refine k_seq ?_
                    refine k_seq ?_
                    refine k_region rfl ?_
                    refine a_op ?_
                    refine a_op ?_
                    refine s_nil (r_false ?_)
                    refine q_next ?_
                    refine a_true ?_
                    refine k_skip ?_
                    refine q_next ?_
                    refine k_seq ?_
                    refine k_block ?_
                    refine k_seq ?_
                    refine k_region rfl ?_
                    refine a_op ?_
                    refine a_op ?_
                    refine a_callp [.r 3 1 0, .r 15 6 0] [] [.r 15 6 0] false (rd_okR Γ (fun _ => []) [(m, e)] (by simp) (In4_snoc In4_nil (by omega)) 0 (0 + 1) 2 (by omega)) ?_
                    iterate 5 refine a_op ?_
                    refine s_nil (r_false ?_)
                    refine q_next ?_
                    refine k_seq ?_
                    refine k_region rfl ?_
                    refine a_op ?_
                    refine a_op ?_
                    refine a_callp [.r 3 3 0, .r 18 6 0] [] [.r 18 6 0] false (rd_okR Γ (fun _ => []) l2 (by omega) h42 0 l2.length 2 (by omega)) ?_
                    iterate 5 refine a_op ?_
                    refine s_nil (r_false ?_)
                    refine q_next ?_
                    refine k_seq ?_
                    refine k_region rfl ?_
                    iterate 7 refine a_op ?_
                    refine a_go ?_
                    refine a_go ?_
                    refine a_go ?_
                    refine a_go ?_
                    refine a_go ?_
                    refine a_go ?_
                    refine a_op ?_
                    refine a_op ?_
                    refine a_go ?_
                    refine a_callgo [] false (num_good Γ 0) ?_
                    refine a_go ?_
                    refine a_callgo [] false (num_good Γ 0) ?_
                    refine a_go ?_
                    refine a_go ?_
                    refine a_op ?_
                    refine s_nil (r_false ?_)
                    refine q_next ?_
                    refine a_false ?_
                    refine k_skip ?_
                    refine q_block (q_next ?_)
                    refine k_region rfl ?_
                    iterate 3 refine a_op ?_
                    refine s_nil (r_false ?_)
                    refine q_loopF (3) (a_le ?_) ?_ ?_
                    · refine le_same ?_ ?_ ?_ <;> simp [-List.map_set, -List.map_replicate, -List.reduceReplicate, -List.map_map, -List.map_drop, -List.map_take, num, bol, txt, w8, w16, w32, w64, lst, cls, rowO, boxO, List.take_of_length_le]
                    · (first | omega | (simp_all <;> omega))
                    · (first | omega | (simp only []; omega))
                  · refine a_st ?_
                    refine k_seq ?_
                    refine k_seq ?_
                    refine k_region rfl ?_
                    refine a_op ?_
                    refine a_op ?_
                    refine s_nil (r_false ?_)
                    refine q_next ?_
                    refine a_true ?_
                    refine k_skip ?_
                    refine q_next ?_
                    refine k_seq ?_
                    refine k_block ?_
                    refine k_seq ?_
                    refine k_region rfl ?_
                    refine a_op ?_
                    refine a_op ?_
                    refine a_callp [.r 3 1 0, .r 15 6 0] [] [.r 15 6 0] false (rd_okR Γ (fun _ => []) [(m, e)] (by simp) (In4_snoc In4_nil (by omega)) 0 (0 + 1) 3 (by omega)) ?_
                    iterate 5 refine a_op ?_
                    refine s_nil (r_false ?_)
                    refine q_next ?_
                    refine k_seq ?_
                    refine k_region rfl ?_
                    refine a_op ?_
                    refine a_op ?_
                    refine a_callp [.r 3 3 0, .r 18 6 0] [] [.r 18 6 0] false (rd_okR Γ (fun _ => []) l2 (by omega) h42 0 l2.length 3 (by omega)) ?_
                    iterate 5 refine a_op ?_
                    refine s_nil (r_false ?_)
                    refine q_next ?_
                    refine k_seq ?_
                    refine k_region rfl ?_
                    iterate 7 refine a_op ?_
                    refine a_go ?_
                    refine a_go ?_
                    refine a_go ?_
                    refine a_go ?_
                    refine a_go ?_
                    refine a_go ?_
                    refine a_op ?_
                    refine a_op ?_
                    refine a_go ?_
                    refine a_callgo [] false (num_good Γ 0) ?_
                    refine a_go ?_
                    refine a_callgo [] false (num_good Γ 0) ?_
                    refine a_go ?_
                    refine a_go ?_
                    refine a_op ?_
                    refine s_nil (r_false ?_)
                    refine q_next ?_
                    refine a_false ?_
                    refine k_skip ?_
                    refine q_block (q_next ?_)
                    refine k_region rfl ?_
                    iterate 3 refine a_op ?_
                    refine s_nil (r_false ?_)
                    refine q_loopF (4) (a_le ?_) ?_ ?_
                    · refine le_same ?_ ?_ ?_ <;> simp [-List.map_set, -List.map_replicate, -List.reduceReplicate, -List.map_map, -List.map_drop, -List.map_take, num, bol, txt, w8, w16, w32, w64, lst, cls, rowO, boxO, List.take_of_length_le]
                    · (first | omega | (simp_all <;> omega))
                    · (first | omega | (simp only []; omega))
                  · refine a_st ?_
                    refine k_seq ?_
                    refine k_seq ?_
                    refine k_region rfl ?_
                    refine a_op ?_
                    refine a_op ?_
                    refine s_nil (r_false ?_)
                    refine q_next ?_
                    refine a_false ?_
                    refine k_exit ?_
                    refine q_seq_exit (q_loopF_exit (q_block_exit (q_block (q_next ?_))))
                    refine k_region rfl ?_
                    iterate 3 refine a_op ?_
                    refine s_nil (r_false ?_)
                    refine q_loopF ((i + 1, false, [(m, e)], false, l2)) (a_le ?_) ?_ ?_
                    · refine le_same ?_ ?_ ?_ <;> simp [-List.map_set, -List.map_replicate, -List.reduceReplicate, -List.map_map, -List.map_drop, -List.map_take, num, bol, txt, w8, w16, w32, w64, lst, cls, rowO, boxO, List.take_of_length_le, chL_app, chL]
                    · refine ⟨?_, ?_, ?_, ?_, ?_, ?_, ?_⟩ <;> simp only [List.length_append, List.length_cons, List.length_nil] <;> first | omega | exact In4_nil | exact In4_snoc h41 hm4 | exact In4_snoc h42 hm4 | exact In4_snoc In4_nil hm4 | exact h41 | exact h42 | (intro _; trivial) | (intro h; cases h) | (simp; done)
                    · simp only []; omega
            · (try simp only [Bool.and_eq_true, Bool.or_eq_true, Bool.or_eq_false_iff, Bool.not_eq_true', Bool.not_eq_false', dec_t, dec_f, Bool.and_eq_false_imp, beq_iff_eq, beq_eq_false_iff_ne, ne_eq] at hc4)
              refine k_seq ?_
              refine k_region rfl ?_
              skip
              · skip
                iterate 6 refine a_op ?_
                simp only [he]
                refine a_op ?_
                refine a_op ?_
                rw [W4_set l2 m e hm4]
                refine s_nil (r_false ?_)
                refine q_next ?_
                refine k_seq ?_
                refine k_region rfl ?_
                iterate 6 refine a_op ?_
                simp only [he]
                refine a_callp [.r 3 3 0, .r 18 6 0] [] [.r 18 6 0] false (wr_okR Γ (fun _ => []) l2 (by omega) h42 0 l2.length m e (by omega) (by omega) (by omega)) ?_
                refine a_call [] false (num_good Γ 0) ?_
                refine a_op ?_
                refine s_nil (r_false ?_)
                refine q_next ?_
                refine a_false ?_
                refine k_skip ?_
                refine q_next ?_
                refine k_seq ?_
                refine k_region rfl ?_
                refine a_op ?_
                refine s_nil (r_false ?_)
                refine q_next ?_
                refine k_block ?_
                refine k_loopF (fun sl L (j : Nat) => ⟨setAll (setBad sl [4, 12, 13, 14, 15, 16, 17, 18, 19, 20, 21, 22, 23, 24, 25, 26, 27, 28, 29, 30, 31, 32, 33, 34, 35, 36, 37, 38, 39, 40, 41, 42, 45, 46, 47, 48, 49, 50, 51, 52, 53, 54, 55, 56, 57, 58, 59, 60, 61, 62, 63, 64, 65, 66, 67, 68, 69, 70, 71, 72, 73, 74, 75, 76, 77, 78, 79, 80, 81, 82, 83, 84, 85, 86, 87, 88, 89, 90, 91, 92, 93, 94, 95, 96, 97, 98, 99, 100, 101, 102, 103, 104, 105, 106, 107, 108, 109, 110, 111, 112, 113, 114, 115, 116, 117, 118, 119, 120, 121, 122, 123, 124, 125, 126, 127, 128, 129, 130, 131, 132, 133, 134]) [(11, .t (num j))], Go.Ot.look (L)⟩) (fun j => j ≤ 4) (fun j => 4 - j) (0) (a_le ?_) ?_ ?_
                · refine le_same ?_ ?_ ?_ <;> simp [-List.map_set, -List.map_replicate, -List.reduceReplicate, -List.map_map, -List.map_drop, -List.map_take, num, bol, txt, w8, w16, w32, w64, lst, cls, rowO, boxO, List.take_of_length_le]
                · (first | omega | simp)
                · intro j hj
                  rcases (show j = 0 ∨ j = 1 ∨ j = 2 ∨ j = 3 ∨ j = 4 by omega) with rfl | rfl | rfl | rfl | rfl
                  · refine a_st ?_
                    refine k_seq ?_
                    refine k_seq ?_
                    refine k_region rfl ?_
                    refine a_op ?_
                    refine a_op ?_
                    refine s_nil (r_false ?_)
                    refine q_next ?_
                    refine a_true ?_
                    refine k_skip ?_
                    refine q_next ?_
                    refine k_seq ?_
                    refine k_block ?_
                    refine k_seq ?_
                    refine k_region rfl ?_
                    refine a_op ?_
                    refine a_op ?_
                    refine a_callp [.r 3 1 0] [] [] false (rd_okN Γ (fun _ => []) 0 0 0 (by omega)) ?_
                    iterate 5 refine a_op ?_
                    refine s_nil (r_false ?_)
                    refine q_next ?_
                    refine k_seq ?_
                    refine k_region rfl ?_
                    refine a_op ?_
                    refine a_op ?_
                    refine a_callp [.r 3 3 0, .r 18 6 0] [] [.r 18 6 0] false (rd_okR Γ (fun _ => []) (l2 ++ [(m, e)]) (by simp; omega) (In4_snoc h42 (by omega)) 0 (l2.length + 1) 0 (by omega)) ?_
                    iterate 5 refine a_op ?_
                    refine s_nil (r_false ?_)
                    refine q_next ?_
                    refine k_seq ?_
                    refine k_region rfl ?_
                    iterate 7 refine a_op ?_
                    refine a_go ?_
                    refine a_go ?_
                    refine a_go ?_
                    refine a_go ?_
                    refine a_go ?_
                    refine a_go ?_
                    refine a_op ?_
                    refine a_op ?_
                    refine a_go ?_
                    refine a_callgo [] false (num_good Γ 0) ?_
                    refine a_go ?_
                    refine a_callgo [] false (num_good Γ 0) ?_
                    refine a_go ?_
                    refine a_go ?_
                    refine a_op ?_
                    refine s_nil (r_false ?_)
                    refine q_next ?_
                    refine a_false ?_
                    refine k_skip ?_
                    refine q_block (q_next ?_)
                    refine k_region rfl ?_
                    iterate 3 refine a_op ?_
                    refine s_nil (r_false ?_)
                    refine q_loopF (1) (a_le ?_) ?_ ?_
                    · refine le_same ?_ ?_ ?_ <;> simp [-List.map_set, -List.map_replicate, -List.reduceReplicate, -List.map_map, -List.map_drop, -List.map_take, num, bol, txt, w8, w16, w32, w64, lst, cls, rowO, boxO, List.take_of_length_le]
                    · (first | omega | (simp_all <;> omega))
                    · (first | omega | (simp only []; omega))
                  · refine a_st ?_
                    refine k_seq ?_
                    refine k_seq ?_
                    refine k_region rfl ?_
                    refine a_op ?_
                    refine a_op ?_
                    refine s_nil (r_false ?_)
                    refine q_next ?_
                    refine a_true ?_
                    refine k_skip ?_
                    refine q_next ?_
                    refine k_seq ?_
                    refine k_block ?_
                    refine k_seq ?_
                    refine k_region rfl ?_
                    refine a_op ?_
                    refine a_op ?_
                    refine a_callp [.r 3 1 0] [] [] false (rd_okN Γ (fun _ => []) 0 0 1 (by omega)) ?_
                    iterate 5 refine a_op ?_
                    refine s_nil (r_false ?_)
                    refine q_next ?_
                    refine k_seq ?_
                    refine k_region rfl ?_
                    refine a_op ?_
                    refine a_op ?_
                    refine a_callp [.r 3 3 0, .r 18 6 0] [] [.r 18 6 0] false (rd_okR Γ (fun _ => []) (l2 ++ [(m, e)]) (by simp; omega) (In4_snoc h42 (by omega)) 0 (l2.length + 1) 1 (by omega)) ?_
                    iterate 5 refine a_op ?_
                    refine s_nil (r_false ?_)
                    refine q_next ?_
                    refine k_seq ?_
                    refine k_region rfl ?_
                    iterate 7 refine a_op ?_
                    refine a_go ?_
                    refine a_go ?_
                    refine a_go ?_
                    refine a_go ?_
                    refine a_go ?_
                    refine a_go ?_
                    refine a_op ?_
                    refine a_op ?_
                    refine a_go ?_
                    refine a_callgo [] false (num_good Γ 0) ?_
                    refine a_go ?_
                    refine a_callgo [] false (num_good Γ 0) ?_
                    refine a_go ?_
                    refine a_go ?_
                    refine a_op ?_
                    refine s_nil (r_false ?_)
                    refine q_next ?_
                    refine a_false ?_
                    refine k_skip ?_
                    refine q_block (q_next ?_)
                    refine k_region rfl ?_
                    iterate 3 refine a_op ?_
                    refine s_nil (r_false ?_)
                    refine q_loopF (2) (a_le ?_) ?_ ?_
                    · refine le_same ?_ ?_ ?_ <;> simp [-List.map_set, -List.map_replicate, -List.reduceReplicate, -List.map_map, -List.map_drop, -List.map_take, num, bol, txt, w8, w16, w32, w64, lst, cls, rowO, boxO, List.take_of_length_le]
                    · (first | omega | (simp_all <;> omega))
                    · (first | omega | (simp only []; omega))
                  · refine a_st ?_
                    refine k_seq ?_
                    refine k_seq ?_
                    refine k_region rfl ?_
                    refine a_op ?_
                    refine a_op ?_
                    refine s_nil (r_false ?_)
                    refine q_next ?_
                    refine a_true ?_
                    refine k_skip ?_
                    refine q_next ?_
                    refine k_seq ?_
                    refine k_block ?_
                    refine k_seq ?_
                    refine k_region rfl ?_
                    refine a_op ?_
                    refine a_op ?_
                    refine a_callp [.r 3 1 0] [] [] false (rd_okN Γ (fun _ => []) 0 0 2 (by omega)) ?_
                    iterate 5 refine a_op ?_
                    refine s_nil (r_false ?_)
                    refine q_next ?_
                    refine k_seq ?_
                    refine k_region rfl ?_
                    refine a_op ?_
                    refine a_op ?_
                    refine a_callp [.r 3 3 0, .r 18 6 0] [] [.r 18 6 0] false (rd_okR Γ (fun _ => []) (l2 ++ [(m, e)]) (by simp; omega) (In4_snoc h42 (by omega)) 0 (l2.length + 1) 2 (by omega)) ?_
                    iterate 5 refine a_op ?_
                    refine s_nil (r_false ?_)
                    refine q_next ?_
                    refine k_seq ?_
                    refine k_region rfl ?_
                    iterate 7 refine a_op ?_
                    refine a_go ?_
                    refine a_go ?_
                    refine a_go ?_
                    refine a_go ?_
                    refine a_go ?_
                    refine a_go ?_
                    refine a_op ?_
                    refine a_op ?_
                    refine a_go ?_
                    refine a_callgo [] false (num_good Γ 0) ?_
                    refine a_go ?_
                    refine a_callgo [] false (num_good Γ 0) ?_
                    refine a_go ?_
                    refine a_go ?_
                    refine a_op ?_
                    refine s_nil (r_false ?_)
                    refine q_next ?_
                    refine a_false ?_
                    refine k_skip ?_
                    refine q_block (q_next ?_)
                    refine k_region rfl ?_
                    iterate 3 refine a_op ?_
                    refine s_nil (r_false ?_)
                    refine q_loopF (3) (a_le ?_) ?_ ?_
                    · refine le_same ?_ ?_ ?_ <;> simp [-List.map_set, -List.map_replicate, -List.reduceReplicate, -List.map_map, -List.map_drop, -List.map_take, num, bol, txt, w8, w16, w32, w64, lst, cls, rowO, boxO, List.take_of_length_le]
                    · (first | omega | (simp_all <;> omega))
                    · (first | omega | (simp only []; omega))
                  · refine a_st ?_
                    refine k_seq ?_
                    refine k_seq ?_
                    refine k_region rfl ?_
                    refine a_op ?_
                    refine a_op ?_
                    refine s_nil (r_false ?_)
                    refine q_next ?_
                    refine a_true ?_
                    refine k_skip ?_
                    refine q_next ?_
                    refine k_seq ?_
                    refine k_block ?_
                    refine k_seq ?_
                    refine k_region rfl ?_
                    refine a_op ?_
                    refine a_op ?_
                    refine a_callp [.r 3 1 0] [] [] false (rd_okN Γ (fun _ => []) 0 0 3 (by omega)) ?_
                    iterate 5 refine a_op ?_
                    refine s_nil (r_false ?_)
                    refine q_next ?_
                    refine k_seq ?_
                    refine k_region rfl ?_
                    refine a_op ?_
                    refine a_op ?_
                    refine a_callp [.r 3 3 0, .r 18 6 0] [] [.r 18 6 0] false (rd_okR Γ (fun _ => []) (l2 ++ [(m, e)]) (by simp; omega) (In4_snoc h42 (by omega)) 0 (l2.length + 1) 3 (by omega)) ?_
                    iterate 5 refine a_op ?_
                    refine s_nil (r_false ?_)
                    refine q_next ?_
                    refine k_seq ?_
                    refine k_region rfl ?_
                    iterate 7 refine a_op ?_
                    refine a_go ?_
                    refine a_go ?_
                    refine a_go ?_
                    refine a_go ?_
                    refine a_go ?_
                    refine a_go ?_
                    refine a_op ?_
                    refine a_op ?_
                    refine a_go ?_
                    refine a_callgo [] false (num_good Γ 0) ?_
                    refine a_go ?_
                    refine a_callgo [] false (num_good Γ 0) ?_
                    refine a_go ?_
                    refine a_go ?_
                    refine a_op ?_
                    refine s_nil (r_false ?_)
                    refine q_next ?_
                    refine a_false ?_
                    refine k_skip ?_
                    refine q_block (q_next ?_)
                    refine k_region rfl ?_
                    iterate 3 refine a_op ?_
                    refine s_nil (r_false ?_)
                    refine q_loopF (4) (a_le ?_) ?_ ?_
                    · refine le_same ?_ ?_ ?_ <;> simp [-List.map_set, -List.map_replicate, -List.reduceReplicate, -List.map_map, -List.map_drop, -List.map_take, num, bol, txt, w8, w16, w32, w64, lst, cls, rowO, boxO, List.take_of_length_le]
                    · (first | omega | (simp_all <;> omega))
                    · (first | omega | (simp only []; omega))
                  · refine a_st ?_
                    refine k_seq ?_
                    refine k_seq ?_
                    refine k_region rfl ?_
                    refine a_op ?_
                    refine a_op ?_
                    refine s_nil (r_false ?_)
                    refine q_next ?_
                    refine a_false ?_
                    refine k_exit ?_
                    refine q_seq_exit (q_loopF_exit (q_block_exit (q_block (q_next ?_))))
                    refine k_region rfl ?_
                    iterate 3 refine a_op ?_
                    refine s_nil (r_false ?_)
                    refine q_loopF ((i + 1, true, [], false, (l2 ++ [(m, e)]))) (a_le ?_) ?_ ?_
                    · refine le_same ?_ ?_ ?_ <;> simp [-List.map_set, -List.map_replicate, -List.reduceReplicate, -List.map_map, -List.map_drop, -List.map_take, num, bol, txt, w8, w16, w32, w64, lst, cls, rowO, boxO, List.take_of_length_le, chL_app, chL]
                    · refine ⟨?_, ?_, ?_, ?_, ?_, ?_, ?_⟩ <;> simp only [List.length_append, List.length_cons, List.length_nil] <;> first | omega | exact In4_nil | exact In4_snoc h41 hm4 | exact In4_snoc h42 hm4 | exact In4_snoc In4_nil hm4 | exact h41 | exact h42 | (intro _; trivial) | (intro h; cases h) | (simp; done)
                    · simp only []; omega
        · (try simp only [Bool.and_eq_true, Bool.or_eq_true, Bool.or_eq_false_iff, Bool.not_eq_true', Bool.not_eq_false', dec_t, dec_f, Bool.and_eq_false_imp, beq_iff_eq, beq_eq_false_iff_ne, ne_eq] at hc2)
          refine k_exit ?_
          refine q_seq_exit (q_loopF_exit (q_block_exit (q_next ?_)))
          refine k_seq ?_
          refine k_region rfl ?_
          refine a_call [] false (awake_good Γ hE) ?_
          refine a_op ?_
          refine s_nil (r_false ?_)
          refine q_next ?_
          refine k_ret ?_
          refine ⟨.inr rfl, a_ret [] (by rw [results3]) ?_ ?_ ?_⟩ <;> simp [-List.map_set, -List.map_replicate, -List.reduceReplicate, -List.map_map, -List.map_drop, -List.map_take, num, bol, txt, w8, w16, w32, w64, lst, cls, rowO, boxO, List.take_of_length_le]
      · refine a_st ?_
        refine k_seq ?_
        refine k_seq ?_
        refine k_region rfl ?_
        iterate 4 refine a_op ?_
        refine s_nil (r_false ?_)
        refine q_next ?_
        refine a_if (fun hc2 => ?_) (fun hc2 => ?_)
        · (try simp only [Bool.and_eq_true, Bool.or_eq_true, Bool.or_eq_false_iff, Bool.not_eq_true', Bool.not_eq_false', dec_t, dec_f, Bool.and_eq_false_imp, beq_iff_eq, beq_eq_false_iff_ne, ne_eq] at hc2)
          refine k_skip ?_
          refine q_next ?_
          refine k_seq ?_
          refine k_block ?_
          refine k_seq ?_
          refine k_seq ?_
          refine k_region rfl ?_
          iterate 4 refine a_op ?_
          obtain ⟨e, he⟩ : ∃ e, ll.getD i [] = e := ⟨_, rfl⟩
          simp only [he]
          refine a_op ?_
          refine a_op ?_
          refine s_nil (r_false ?_)
          refine q_next ?_
          refine a_if (fun hc3 => ?_) (fun hc3 => ?_)
          · (try simp only [Bool.and_eq_true, Bool.or_eq_true, Bool.or_eq_false_iff, Bool.not_eq_true', Bool.not_eq_false', dec_t, dec_f, Bool.and_eq_false_imp, beq_iff_eq, beq_eq_false_iff_ne, ne_eq] at hc3)
            refine k_seq ?_
            refine k_region rfl ?_
            refine a_call [] false (awake_good Γ hE) ?_
            refine a_op ?_
            refine s_nil (r_false ?_)
            refine q_next ?_
            refine k_ret ?_
            refine q_seq_ret (q_block_ret (q_seq_ret (q_loopF_ret (q_block_ret (q_seq_ret ?_)))))
            refine ⟨.inr rfl, a_ret [] (by rw [results3]) ?_ ?_ ?_⟩ <;> simp [-List.map_set, -List.map_replicate, -List.reduceReplicate, -List.map_map, -List.map_drop, -List.map_take, num, bol, txt, w8, w16, w32, w64, lst, cls, rowO, boxO, List.take_of_length_le]
          · (try simp only [Bool.and_eq_true, Bool.or_eq_true, Bool.or_eq_false_iff, Bool.not_eq_true', Bool.not_eq_false', dec_t, dec_f, Bool.and_eq_false_imp, beq_iff_eq, beq_eq_false_iff_ne, ne_eq] at hc3)
            refine k_skip ?_
            refine q_next ?_
            refine k_seq ?_
            refine k_region rfl ?_
            iterate 4 refine a_op ?_
            obtain ⟨e8, he8⟩ : ∃ e, is.getD i 0 = e := ⟨_, rfl⟩
            simp only [he8]
            have hx8 := e8.toNat_lt
            obtain ⟨m, hm, hm4⟩ : ∃ m : Nat, (e8.toNat : Int) / 2 % 4 = (m : Int) ∧ m < 4 := ⟨e8.toNat / 2 % 4, by omega, by omega⟩
            refine a_op ?_
            refine a_op ?_
            refine a_op (hs := by (simp (disch := omega) only [push_cast, hm] <;> rfl)) ?_
            refine a_op ?_
            refine s_nil (r_false ?_)
            refine q_next ?_
            refine k_seq ?_
            refine k_seq ?_
            refine k_region rfl ?_
            iterate 4 refine a_op ?_
            simp only [he8]
            refine a_op ?_
            refine a_op ?_
            refine s_nil (r_false ?_)
            refine q_next ?_
            refine a_if (fun hc4 => ?_) (fun hc4 => ?_)
            · (try simp only [Bool.and_eq_true, Bool.or_eq_true, Bool.or_eq_false_iff, Bool.not_eq_true', Bool.not_eq_false', dec_t, dec_f, Bool.and_eq_false_imp, beq_iff_eq, beq_eq_false_iff_ne, ne_eq] at hc4)
              refine k_seq ?_
              refine k_region rfl ?_
              skip
              · skip
                iterate 6 refine a_op ?_
                simp only [he]
                refine a_op ?_
                refine a_op ?_
                rw [W4_set l1 m e hm4]
                refine s_nil (r_false ?_)
                refine q_next ?_
                refine k_seq ?_
                refine k_region rfl ?_
                iterate 6 refine a_op ?_
                simp only [he]
                refine a_callp [.r 3 1 0, .r 15 6 0] [] [.r 15 6 0] false (wr_okR Γ (fun _ => []) l1 (by omega) h41 0 l1.length m e (by omega) (by omega) (by omega)) ?_
                refine a_call [] false (num_good Γ 0) ?_
                refine a_op ?_
                refine s_nil (r_false ?_)
                refine q_next ?_
                refine a_false ?_
                refine k_skip ?_
                refine q_next ?_
                refine k_seq ?_
                refine k_region rfl ?_
                refine a_op ?_
                refine s_nil (r_false ?_)
                refine q_next ?_
                refine k_block ?_
                refine k_loopF (fun sl L (j : Nat) => ⟨setAll (setBad sl [4, 12, 13, 14, 15, 16, 17, 18, 19, 20, 21, 22, 23, 24, 25, 26, 27, 28, 29, 30, 31, 32, 33, 34, 35, 36, 37, 38, 39, 40, 41, 42, 45, 46, 47, 48, 49, 50, 51, 52, 53, 54, 55, 56, 57, 58, 59, 60, 61, 62, 63, 64, 65, 66, 67, 68, 69, 70, 71, 72, 73, 74, 75, 76, 77, 78, 79, 80, 81, 82, 83, 84, 85, 86, 87, 88, 89, 90, 91, 92, 93, 94, 95, 96, 97, 98, 99, 100, 101, 102, 103, 104, 105, 106, 107, 108, 109, 110, 111, 112, 113, 114, 115, 116, 117, 118, 119, 120, 121, 122, 123, 124, 125, 126, 127, 128, 129, 130, 131, 132, 133, 134]) [(11, .t (num j))], Go.Ot.look (L)⟩) (fun j => j ≤ 4) (fun j => 4 - j) (0) (a_le ?_) ?_ ?_
                · refine le_same ?_ ?_ ?_ <;> simp [-List.map_set, -List.map_replicate, -List.reduceReplicate, -List.map_map, -List.map_drop, -List.map_take, num, bol, txt, w8, w16, w32, w64, lst, cls, rowO, boxO, List.take_of_length_le]
                · (first | omega | simp)
                · intro j hj
                  rcases (show j = 0 ∨ j = 1 ∨ j = 2 ∨ j = 3 ∨ j = 4 by omega) with rfl | rfl | rfl | rfl | rfl
                  · refine a_st ?_
                    refine k_seq ?_
                    refine k_seq ?_
                    refine k_region rfl ?_
                    refine a_op ?_
                    refine a_op ?_
                    refine s_nil (r_false ?_)
                    refine q_next ?_
                    refine a_true ?_
                    refine k_skip ?_
                    refine q_next ?_
                    refine k_seq ?_
                    refine k_block ?_
                    refine k_seq ?_
                    refine k_region rfl ?_
                    refine a_op ?_
                    refine a_op ?_
                    refine a_callp [.r 3 1 0, .r 15 6 0] [] [.r 15 6 0] false (rd_okR Γ (fun _ => []) (l1 ++ [(m, e)]) (by simp; omega) (In4_snoc h41 (by omega)) 0 (l1.length + 1) 0 (by omega)) ?_
                    iterate 5 refine a_op ?_
                    refine s_nil (r_false ?_)
                    refine q_next ?_
                    refine k_seq ?_
                    refine k_region rfl ?_
                    refine a_op ?_
                    refine a_op ?_
                    refine a_callp [.r 3 3 0] [] [] false (rd_okN Γ (fun _ => []) 0 0 0 (by omega)) ?_
                    iterate 5 refine a_op ?_
                    refine s_nil (r_false ?_)
                    refine q_next ?_
                    refine k_seq ?_
                    refine k_region rfl ?_
                    iterate 7 refine a_op ?_
                    refine a_go ?_
                    refine a_go ?_
                    refine a_go ?_
                    refine a_go ?_
                    refine a_go ?_
                    refine a_go ?_
                    refine a_op ?_
                    refine a_op ?_
                    refine a_go ?_
                    refine a_callgo [] false (num_good Γ 0) ?_
                    refine a_go ?_
                    refine a_callgo [] false (num_good Γ 0) ?_
                    refine a_go ?_
                    refine a_go ?_
                    refine a_op ?_
                    refine s_nil (r_false ?_)
                    refine q_next ?_
                    refine a_false ?_
                    refine k_skip ?_
                    refine q_block (q_next ?_)
                    refine k_region rfl ?_
                    iterate 3 refine a_op ?_
                    refine s_nil (r_false ?_)
                    refine q_loopF (1) (a_le ?_) ?_ ?_
                    · refine le_same ?_ ?_ ?_ <;> simp [-List.map_set, -List.map_replicate, -List.reduceReplicate, -List.map_map, -List.map_drop, -List.map_take, num, bol, txt, w8, w16, w32, w64, lst, cls, rowO, boxO, List.take_of_length_le]
                    · (first | omega | (simp_all <;> omega))
                    · (first | omega | (simp only []; omega))
                  · refine a_st ?_
                    refine k_seq ?_
                    refine k_seq ?_
                    refine k_region rfl ?_
                    refine a_op ?_
                    refine a_op ?_
                    refine s_nil (r_false ?_)
                    refine q_next ?_
                    refine a_true ?_
                    refine k_skip ?_
                    refine q_next ?_
                    refine k_seq ?_
                    refine k_block ?_
                    refine k_seq ?_
                    refine k_region rfl ?_
                    refine a_op ?_
                    refine a_op ?_
                    refine a_callp [.r 3 1 0, .r 15 6 0] [] [.r 15 6 0] false (rd_okR Γ (fun _ => []) (l1 ++ [(m, e)]) (by simp; omega) (In4_snoc h41 (by omega)) 0 (l1.length + 1) 1 (by omega)) ?_
                    iterate 5 refine a_op ?_
                    refine s_nil (r_false ?_)
                    refine q_next ?_
                    refine k_seq ?_
                    refine k_region rfl ?_
                    refine a_op ?_
                    refine a_op ?_
                    refine a_callp [.r 3 3 0] [] [] false (rd_okN Γ (fun _ => []) 0 0 1 (by omega)) ?_
                    iterate 5 refine a_op ?_
                    refine s_nil (r_false ?_)
                    refine q_next ?_
                    refine k_seq ?_
                    refine k_region rfl ?_
                    iterate 7 refine a_op ?_
                    refine a_go ?_
                    refine a_go ?_
                    refine a_go ?_
                    refine a_go ?_
                    refine a_go ?_
                    refine a_go ?_
                    refine a_op ?_
                    refine a_op ?_
                    refine a_go ?_
                    refine a_callgo [] false (num_good Γ 0) ?_
                    refine a_go ?_
                    refine a_callgo [] false (num_good Γ 0) ?_
                    refine a_go ?_
                    refine a_go ?_
                    refine a_op ?_
                    refine s_nil (r_false ?_)
                    refine q_next ?_
                    refine a_false ?_
                    refine k_skip ?_
                    refine q_block (q_next ?_)
                    refine k_region rfl ?_
                    iterate 3 refine a_op ?_
                    refine s_nil (r_false ?_)
                    refine q_loopF (2) (a_le ?_) ?_ ?_
                    · refine le_same ?_ ?_ ?_ <;> simp [-List.map_set, -List.map_replicate, -List.reduceReplicate, -List.map_map, -List.map_drop, -List.map_take, num, bol, txt, w8, w16, w32, w64, lst, cls, rowO, boxO, List.take_of_length_le]
                    · (first | omega | (simp_all <;> omega))
                    · (first | omega | (simp only []; omega))
                  · refine a_st ?_
                    refine k_seq ?_
                    refine k_seq ?_
                    refine k_region rfl ?_
                    refine a_op ?_
                    refine a_op ?_
                    refine s_nil (r_false ?_)
                    refine q_next ?_
                    refine a_true ?_
                    refine k_skip ?_
                    refine q_next ?_
                    refine k_seq ?_
                    refine k_block ?_
                    refine k_seq ?_
                    refine k_region rfl ?_
                    refine a_op ?_
                    refine a_op ?_
                    refine a_callp [.r 3 1 0, .r 15 6 0] [] [.r 15 6 0] false (rd_okR Γ (fun _ => []) (l1 ++ [(m, e)]) (by simp; omega) (In4_snoc h41 (by omega)) 0 (l1.length + 1) 2 (by omega)) ?_
                    iterate 5 refine a_op ?_
                    refine s_nil (r_false ?_)
                    refine q_next ?_
                    refine k_seq ?_
                    refine k_region rfl ?_
                    refine a_op ?_
                    refine a_op ?_
                    refine a_callp [.r 3 3 0] [] [] false (rd_okN Γ (fun _ => []) 0 0 2 (by omega)) ?_
                    iterate 5 refine a_op ?_
                    refine s_nil (r_false ?_)
                    refine q_next ?_
                    refine k_seq ?_
                    refine k_region rfl ?_
                    iterate 7 refine a_op ?_
                    refine a_go ?_
                    refine a_go ?_
                    refine a_go ?_
                    refine a_go ?_
                    refine a_go ?_
                    refine a_go ?_
                    refine a_op ?_
                    refine a_op ?_
                    refine a_go ?_
                    refine a_callgo [] false (num_good Γ 0) ?_
                    refine a_go ?_
                    refine a_callgo [] false (num_good Γ 0) ?_
                    refine a_go ?_
                    refine a_go ?_
                    refine a_op ?_
                    refine s_nil (r_false ?_)
                    refine q_next ?_
                    refine a_false ?_
                    refine k_skip ?_
                    refine q_block (q_next ?_)
                    refine k_region rfl ?_
                    iterate 3 refine a_op ?_
                    refine s_nil (r_false ?_)
                    refine q_loopF (3) (a_le ?_) ?_ ?_
                    · refine le_same ?_ ?_ ?_ <;> simp [-List.map_set, -List.map_replicate, -List.reduceReplicate, -List.map_map, -List.map_drop, -List.map_take, num, bol, txt, w8, w16, w32, w64, lst, cls, rowO, boxO, List.take_of_length_le]
                    · (first | omega | (simp_all <;> omega))
                    · (first | omega | (simp only []; omega))
                  · refine a_st ?_
                    refine k_seq ?_
                    refine k_seq ?_
                    refine k_region rfl ?_
                    refine a_op ?_
                    refine a_op ?_
                    refine s_nil (r_false ?_)
                    refine q_next ?_
                    refine a_true ?_
                    refine k_skip ?_
                    refine q_next ?_
                    refine k_seq ?_
                    refine k_block ?_
                    refine k_seq ?_
                    refine k_region rfl ?_
                    refine a_op ?_
                    refine a_op ?_
                    refine a_callp [.r 3 1 0, .r 15 6 0] [] [.r 15 6 0] false (rd_okR Γ (fun _ => []) (l1 ++ [(m, e)]) (by simp; omega) (In4_snoc h41 (by omega)) 0 (l1.length + 1) 3 (by omega)) ?_
                    iterate 5 refine a_op ?_
                    refine s_nil (r_false ?_)
                    refine q_next ?_
                    refine k_seq ?_
                    refine k_region rfl ?_
                    refine a_op ?_
                    refine a_op ?_
                    refine a_callp [.r 3 3 0] [] [] false (rd_okN Γ (fun _ => []) 0 0 3 (by omega)) ?_
                    iterate 5 refine a_op ?_
                    refine s_nil (r_false ?_)
                    refine q_next ?_
                    refine k_seq ?_
                    refine k_region rfl ?_
                    iterate 7 refine a_op ?_
                    refine a_go ?_
                    refine a_go ?_
                    refine a_go ?_
                    refine a_go ?_
                    refine a_go ?_
                    refine a_go ?_
                    refine a_op ?_
                    refine a_op ?_
                    refine a_go ?_
                    refine a_callgo [] false (num_good Γ 0) ?_
                    refine a_go ?_
                    refine a_callgo [] false (num_good Γ 0) ?_
                    refine a_go ?_
                    refine a_go ?_
                    refine a_op ?_
                    refine s_nil (r_false ?_)
                    refine q_next ?_
                    refine a_false ?_
                    refine k_skip ?_
                    refine q_block (q_next ?_)
                    refine k_region rfl ?_
                    iterate 3 refine a_op ?_
                    refine s_nil (r_false ?_)
                    refine q_loopF (4) (a_le ?_) ?_ ?_
                    · refine le_same ?_ ?_ ?_ <;> simp [-List.map_set, -List.map_replicate, -List.reduceReplicate, -List.map_map, -List.map_drop, -List.map_take, num, bol, txt, w8, w16, w32, w64, lst, cls, rowO, boxO, List.take_of_length_le]
                    · (first | omega | (simp_all <;> omega))
                    · (first | omega | (simp only []; omega))
                  · refine a_st ?_
                    refine k_seq ?_
                    refine k_seq ?_
                    refine k_region rfl ?_
                    refine a_op ?_
                    refine a_op ?_
                    refine s_nil (r_false ?_)
                    refine q_next ?_
                    refine a_false ?_
                    refine k_exit ?_
                    refine q_seq_exit (q_loopF_exit (q_block_exit (q_block (q_next ?_))))
                    refine k_region rfl ?_
                    iterate 3 refine a_op ?_
                    refine s_nil (r_false ?_)
                    refine q_loopF ((i + 1, false, (l1 ++ [(m, e)]), true, [])) (a_le ?_) ?_ ?_
                    · refine le_same ?_ ?_ ?_ <;> simp [-List.map_set, -List.map_replicate, -List.reduceReplicate, -List.map_map, -List.map_drop, -List.map_take, num, bol, txt, w8, w16, w32, w64, lst, cls, rowO, boxO, List.take_of_length_le, chL_app, chL]
                    · refine ⟨?_, ?_, ?_, ?_, ?_, ?_, ?_⟩ <;> simp only [List.length_append, List.length_cons, List.length_nil] <;> first | omega | exact In4_nil | exact In4_snoc h41 hm4 | exact In4_snoc h42 hm4 | exact In4_snoc In4_nil hm4 | exact h41 | exact h42 | (intro _; trivial) | (intro h; cases h) | (simp; done)
                    · simp only []; omega
            · (try simp only [Bool.and_eq_true, Bool.or_eq_true, Bool.or_eq_false_iff, Bool.not_eq_true', Bool.not_eq_false', dec_t, dec_f, Bool.and_eq_false_imp, beq_iff_eq, beq_eq_false_iff_ne, ne_eq] at hc4)
              refine k_seq ?_
              refine k_region rfl ?_
              skip
              · skip
                iterate 6 refine a_op ?_
                simp only [he]
                refine a_op ?_
                refine a_op ?_
                rw [W4_set0 m e hm4]
                refine s_nil (r_false ?_)
                refine q_next ?_
                refine k_seq ?_
                refine k_region rfl ?_
                iterate 6 refine a_op ?_
                simp only [he]
                refine a_callp [.r 3 3 0] [] [] false (wr_okN Γ (fun _ => []) 0 0 m e (by omega) (by omega) (by omega)) ?_
                refine a_call [] false (num_good Γ 0) ?_
                refine a_op ?_
                refine s_nil (r_false ?_)
                refine q_next ?_
                refine a_false ?_
                refine k_skip ?_
                refine q_next ?_
                refine k_seq ?_
                refine k_region rfl ?_
                refine a_op ?_
                refine s_nil (r_false ?_)
                refine q_next ?_
                refine k_block ?_
                refine k_loopF (fun sl L (j : Nat) => ⟨setAll (setBad sl [4, 12, 13, 14, 15, 16, 17, 18, 19, 20, 21, 22, 23, 24, 25, 26, 27, 28, 29, 30, 31, 32, 33, 34, 35, 36, 37, 38, 39, 40, 41, 42, 45, 46, 47, 48, 49, 50, 51, 52, 53, 54, 55, 56, 57, 58, 59, 60, 61, 62, 63, 64, 65, 66, 67, 68, 69, 70, 71, 72, 73, 74, 75, 76, 77, 78, 79, 80, 81, 82, 83, 84, 85, 86, 87, 88, 89, 90, 91, 92, 93, 94, 95, 96, 97, 98, 99, 100, 101, 102, 103, 104, 105, 106, 107, 108, 109, 110, 111, 112, 113, 114, 115, 116, 117, 118, 119, 120, 121, 122, 123, 124, 125, 126, 127, 128, 129, 130, 131, 132, 133, 134]) [(11, .t (num j))], Go.Ot.look (L)⟩) (fun j => j ≤ 4) (fun j => 4 - j) (0) (a_le ?_) ?_ ?_
                · refine le_same ?_ ?_ ?_ <;> simp [-List.map_set, -List.map_replicate, -List.reduceReplicate, -List.map_map, -List.map_drop, -List.map_take, num, bol, txt, w8, w16, w32, w64, lst, cls, rowO, boxO, List.take_of_length_le]
                · (first | omega | simp)
                · intro j hj
                  rcases (show j = 0 ∨ j = 1 ∨ j = 2 ∨ j = 3 ∨ j = 4 by omega) with rfl | rfl | rfl | rfl | rfl
                  · refine a_st ?_
                    refine k_seq ?_
                    refine k_seq ?_
                    refine k_region rfl ?_
                    refine a_op ?_
                    refine a_op ?_
                    refine s_nil (r_false ?_)
                    refine q_next ?_
                    refine a_true ?_
                    refine k_skip ?_
                    refine q_next ?_
                    refine k_seq ?_
                    refine k_block ?_
                    refine k_seq ?_
                    refine k_region rfl ?_
                    refine a_op ?_
                    refine a_op ?_
                    refine a_callp [.r 3 1 0, .r 15 6 0] [] [.r 15 6 0] false (rd_okR Γ (fun _ => []) l1 (by omega) h41 0 l1.length 0 (by omega)) ?_
                    iterate 5 refine a_op ?_
                    refine s_nil (r_false ?_)
                    refine q_next ?_
                    refine k_seq ?_
                    refine k_region rfl ?_
                    refine a_op ?_
                    refine a_op ?_
                    refine a_callp [.r 3 3 0, .r 18 6 0] [] [.r 18 6 0] false (rd_okR Γ (fun _ => []) [(m, e)] (by simp) (In4_snoc In4_nil (by omega)) 0 (0 + 1) 0 (by omega)) ?_
                    iterate 5 refine a_op ?_
                    refine s_nil (r_false ?_)
                    refine q_next ?_
                    refine k_seq ?_
                    refine k_region rfl ?_
                    iterate 7 refine a_op ?_
                    refine a_go ?_
                    refine a_go ?_
                    refine a_go ?_
                    refine a_go ?_
                    refine a_go ?_
                    refine a_go ?_
                    refine a_op ?_
                    refine a_op ?_
                    refine a_go ?_
                    refine a_callgo [] false (num_good Γ 0) ?_
                    refine a_go ?_
                    refine a_callgo [] false (num_good Γ 0) ?_
                    refine a_go ?_
                    refine a_go ?_
                    refine a_op ?_
                    refine s_nil (r_false ?_)
                    refine q_next ?_
                    refine a_false ?_
                    refine k_skip ?_
                    refine q_block (q_next ?_)
                    refine k_region rfl ?_
                    iterate 3 refine a_op ?_
                    refine s_nil (r_false ?_)
                    refine q_loopF (1) (a_le ?_) ?_ ?_
                    · refine le_same ?_ ?_ ?_ <;> simp [-List.map_set, -List.map_replicate, -List.reduceReplicate, -List.map_map, -List.map_drop, -List.map_take, num, bol, txt, w8, w16, w32, w64, lst, cls, rowO, boxO, List.take_of_length_le]
                    · (first | omega | (simp_all <;> omega))
                    · (first | omega | (simp only []; omega))
                  · refine a_st ?_
                    refine k_seq ?_
                    refine k_seq ?_
                    refine k_region rfl ?_
                    refine a_op ?_
                    refine a_op ?_
                    refine s_nil (r_false ?_)
                    refine q_next ?_
                    refine a_true ?_
                    refine k_skip ?_
                    refine q_next ?_
                    refine k_seq ?_
                    refine k_block ?_
                    refine k_seq ?_
                    refine k_region rfl ?_
                    refine a_op ?_
                    refine a_op ?_
                    refine a_callp [.r 3 1 0, .r 15 6 0] [] [.r 15 6 0] false (rd_okR Γ (fun _ => []) l1 (by omega) h41 0 l1.length 1 (by omega)) ?_
                    iterate 5 refine a_op ?_
                    refine s_nil (r_false ?_)
                    refine q_next ?_
                    refine k_seq ?_
                    refine k_region rfl ?_
                    refine a_op ?_
                    refine a_op ?_
                    refine a_callp [.r 3 3 0, .r 18 6 0] [] [.r 18 6 0] false (rd_okR Γ (fun _ => []) [(m, e)] (by simp) (In4_snoc In4_nil (by omega)) 0 (0 + 1) 1 (by omega)) ?_
                    iterate 5 refine a_op ?_
                    refine s_nil (r_false ?_)
                    refine q_next ?_
                    refine k_seq ?_
                    refine k_region rfl ?_
                    iterate 7 refine a_op ?_
                    refine a_go ?_
                    refine a_go ?_
                    refine a_go ?_
                    refine a_go ?_
                    refine a_go ?_
                    refine a_go ?_
                    refine a_op ?_
                    refine a_op ?_
                    refine a_go ?_
                    refine a_callgo [] false (num_good Γ 0) ?_
                    refine a_go ?_
                    refine a_callgo [] false (num_good Γ 0) ?_
                    refine a_go ?_
                    refine a_go ?_
                    refine a_op ?_
                    refine s_nil (r_false ?_)
                    refine q_next ?_
                    refine a_false ?_
                    refine k_skip ?_
                    refine q_block (q_next ?_)
                    refine k_region rfl ?_
                    iterate 3 refine a_op ?_
                    refine s_nil (r_false ?_)
                    refine q_loopF (2) (a_le ?_) ?_ ?_
                    · refine le_same ?_ ?_ ?_ <;> simp [-List.map_set, -List.map_replicate, -List.reduceReplicate, -List.map_map, -List.map_drop, -List.map_take, num, bol, txt, w8, w16, w32, w64, lst, cls, rowO, boxO, List.take_of_length_le]
                    · (first | omega | (simp_all <;> omega))
                    · (first | omega | (simp only []; omega))
                  · refine a_st ?_
                    refine k_seq ?_
                    refine k_seq ?_
                    refine k_region rfl ?_
                    refine a_op ?_
                    refine a_op ?_
                    refine s_nil (r_false ?_)
                    refine q_next ?_
                    refine a_true ?_
                    refine k_skip ?_
                    refine q_next ?_
                    refine k_seq ?_
                    refine k_block ?_
                    refine k_seq ?_
                    refine k_region rfl ?_
                    refine a_op ?_
                    refine a_op ?_
                    refine a_callp [.r 3 1 0, .r 15 6 0] [] [.r 15 6 0] false (rd_okR Γ (fun _ => []) l1 (by omega) h41 0 l1.length 2 (by omega)) ?_
                    iterate 5 refine a_op ?_
                    refine s_nil (r_false ?_)
                    refine q_next ?_
                    refine k_seq ?_
                    refine k_region rfl ?_
                    refine a_op ?_
                    refine a_op ?_
                    refine a_callp [.r 3 3 0, .r 18 6 0] [] [.r 18 6 0] false (rd_okR Γ (fun _ => []) [(m, e)] (by simp) (In4_snoc In4_nil (by omega)) 0 (0 + 1) 2 (by omega)) ?_
                    iterate 5 refine a_op ?_
                    refine s_nil (r_false ?_)
                    refine q_next ?_
                    refine k_seq ?_
                    refine k_region rfl ?_
                    iterate 7 refine a_op ?_
                    refine a_go ?_
                    refine a_go ?_
                    refine a_go ?_
                    refine a_go ?_
                    refine a_go ?_
                    refine a_go ?_
                    refine a_op ?_
                    refine a_op ?_
                    refine a_go ?_
                    refine a_callgo [] false (num_good Γ 0) ?_
                    refine a_go ?_
                    refine a_callgo [] false (num_good Γ 0) ?_
                    refine a_go ?_
                    refine a_go ?_
                    refine a_op ?_
                    refine s_nil (r_false ?_)
                    refine q_next ?_
                    refine a_false ?_
                    refine k_skip ?_
                    refine q_block (q_next ?_)
                    refine k_region rfl ?_
                    iterate 3 refine a_op ?_
                    refine s_nil (r_false ?_)
                    refine q_loopF (3) (a_le ?_) ?_ ?_
                    · refine le_same ?_ ?_ ?_ <;> simp [-List.map_set, -List.map_replicate, -List.reduceReplicate, -List.map_map, -List.map_drop, -List.map_take, num, bol, txt, w8, w16, w32, w64, lst, cls, rowO, boxO, List.take_of_length_le]
                    · (first | omega | (simp_all <;> omega))
                    · (first | omega | (simp only []; omega))
                  · refine a_st ?_
                    refine k_seq ?_
                    refine k_seq ?_
                    refine k_region rfl ?_
                    refine a_op ?_
                    refine a_op ?_
                    refine s_nil (r_false ?_)
                    refine q_next ?_
                    refine a_true ?_
                    refine k_skip ?_
                    refine q_next ?_
                    refine k_seq ?_
                    refine k_block ?_
                    refine k_seq ?_
                    refine k_region rfl ?_
                    refine a_op ?_
                    refine a_op ?_
                    refine a_callp [.r 3 1 0, .r 15 6 0] [] [.r 15 6 0] false (rd_okR Γ (fun _ => []) l1 (by omega) h41 0 l1.length 3 (by omega)) ?_
                    iterate 5 refine a_op ?_
                    refine s_nil (r_false ?_)
                    refine q_next ?_
                    refine k_seq ?_
                    refine k_region rfl ?_
                    refine a_op ?_
                    refine a_op ?_
                    refine a_callp [.r 3 3 0, .r 18 6 0] [] [.r 18 6 0] false (rd_okR Γ (fun _ => []) [(m, e)] (by simp) (In4_snoc In4_nil (by omega)) 0 (0 + 1) 3 (by omega)) ?_
                    iterate 5 refine a_op ?_
                    refine s_nil (r_false ?_)
                    refine q_next ?_
                    refine k_seq ?_
                    refine k_region rfl ?_
                    iterate 7 refine a_op ?_
                    refine a_go ?_
                    refine a_go ?_
                    refine a_go ?_
                    refine a_go ?_
                    refine a_go ?_
                    refine a_go ?_
                    refine a_op ?_
                    refine a_op ?_
                    refine a_go ?_
                    refine a_callgo [] false (num_good Γ 0) ?_
                    refine a_go ?_
                    refine a_callgo [] false (num_good Γ 0) ?_
                    refine a_go ?_
                    refine a_go ?_
                    refine a_op ?_
                    refine s_nil (r_false ?_)
                    refine q_next ?_
                    refine a_false ?_
                    refine k_skip ?_
                    refine q_block (q_next ?_)
                    refine k_region rfl ?_
                    iterate 3 refine a_op ?_
                    refine s_nil (r_false ?_)
                    refine q_loopF (4) (a_le ?_) ?_ ?_
                    · refine le_same ?_ ?_ ?_ <;> simp [-List.map_set, -List.map_replicate, -List.reduceReplicate, -List.map_map, -List.map_drop, -List.map_take, num, bol, txt, w8, w16, w32, w64, lst, cls, rowO, boxO, List.take_of_length_le]
                    · (first | omega | (simp_all <;> omega))
                    · (first | omega | (simp only []; omega))
                  · refine a_st ?_
                    refine k_seq ?_
                    refine k_seq ?_
                    refine k_region rfl ?_
                    refine a_op ?_
                    refine a_op ?_
                    refine s_nil (r_false ?_)
                    refine q_next ?_
                    refine a_false ?_
                    refine k_exit ?_
                    refine q_seq_exit (q_loopF_exit (q_block_exit (q_block (q_next ?_))))
                    refine k_region rfl ?_
                    iterate 3 refine a_op ?_
                    refine s_nil (r_false ?_)
                    refine q_loopF ((i + 1, false, l1, false, [(m, e)])) (a_le ?_) ?_ ?_
                    · refine le_same ?_ ?_ ?_ <;> simp [-List.map_set, -List.map_replicate, -List.reduceReplicate, -List.map_map, -List.map_drop, -List.map_take, num, bol, txt, w8, w16, w32, w64, lst, cls, rowO, boxO, List.take_of_length_le, chL_app, chL]
                    · refine ⟨?_, ?_, ?_, ?_, ?_, ?_, ?_⟩ <;> simp only [List.length_append, List.length_cons, List.length_nil] <;> first | omega | exact In4_nil | exact In4_snoc h41 hm4 | exact In4_snoc h42 hm4 | exact In4_snoc In4_nil hm4 | exact h41 | exact h42 | (intro _; trivial) | (intro h; cases h) | (simp; done)
                    · simp only []; omega
        · (try simp only [Bool.and_eq_true, Bool.or_eq_true, Bool.or_eq_false_iff, Bool.not_eq_true', Bool.not_eq_false', dec_t, dec_f, Bool.and_eq_false_imp, beq_iff_eq, beq_eq_false_iff_ne, ne_eq] at hc2)
          refine k_exit ?_
          refine q_seq_exit (q_loopF_exit (q_block_exit (q_next ?_)))
          refine k_seq ?_
          refine k_region rfl ?_
          refine a_call [] false (awake_good Γ hE) ?_
          refine a_op ?_
          refine s_nil (r_false ?_)
          refine q_next ?_
          refine k_ret ?_
          refine ⟨.inr rfl, a_ret [] (by rw [results3]) ?_ ?_ ?_⟩ <;> simp [-List.map_set, -List.map_replicate, -List.reduceReplicate, -List.map_map, -List.map_drop, -List.map_take, num, bol, txt, w8, w16, w32, w64, lst, cls, rowO, boxO, List.take_of_length_le]
      · refine a_st ?_
        refine k_seq ?_
        refine k_seq ?_
        refine k_region rfl ?_
        iterate 4 refine a_op ?_
        refine s_nil (r_false ?_)
        refine q_next ?_
        refine a_if (fun hc2 => ?_) (fun hc2 => ?_)
        · (try simp only [Bool.and_eq_true, Bool.or_eq_true, Bool.or_eq_false_iff, Bool.not_eq_true', Bool.not_eq_false', dec_t, dec_f, Bool.and_eq_false_imp, beq_iff_eq, beq_eq_false_iff_ne, ne_eq] at hc2)
          refine k_skip ?_
          refine q_next ?_
          refine k_seq ?_
          refine k_block ?_
          refine k_seq ?_
          refine k_seq ?_
          refine k_region rfl ?_
          iterate 4 refine a_op ?_
          obtain ⟨e, he⟩ : ∃ e, ll.getD i [] = e := ⟨_, rfl⟩
          simp only [he]
          refine a_op ?_
          refine a_op ?_
          refine s_nil (r_false ?_)
          refine q_next ?_
          refine a_if (fun hc3 => ?_) (fun hc3 => ?_)
          · (try simp only [Bool.and_eq_true, Bool.or_eq_true, Bool.or_eq_false_iff, Bool.not_eq_true', Bool.not_eq_false', dec_t, dec_f, Bool.and_eq_false_imp, beq_iff_eq, beq_eq_false_iff_ne, ne_eq] at hc3)
            refine k_seq ?_
            refine k_region rfl ?_
            refine a_call [] false (awake_good Γ hE) ?_
            refine a_op ?_
            refine s_nil (r_false ?_)
            refine q_next ?_
            refine k_ret ?_
            refine q_seq_ret (q_block_ret (q_seq_ret (q_loopF_ret (q_block_ret (q_seq_ret ?_)))))
            refine ⟨.inr rfl, a_ret [] (by rw [results3]) ?_ ?_ ?_⟩ <;> simp [-List.map_set, -List.map_replicate, -List.reduceReplicate, -List.map_map, -List.map_drop, -List.map_take, num, bol, txt, w8, w16, w32, w64, lst, cls, rowO, boxO, List.take_of_length_le]
          · (try simp only [Bool.and_eq_true, Bool.or_eq_true, Bool.or_eq_false_iff, Bool.not_eq_true', Bool.not_eq_false', dec_t, dec_f, Bool.and_eq_false_imp, beq_iff_eq, beq_eq_false_iff_ne, ne_eq] at hc3)
            refine k_skip ?_
            refine q_next ?_
            refine k_seq ?_
            refine k_region rfl ?_
            iterate 4 refine a_op ?_
            obtain ⟨e8, he8⟩ : ∃ e, is.getD i 0 = e := ⟨_, rfl⟩
            simp only [he8]
            have hx8 := e8.toNat_lt
            obtain ⟨m, hm, hm4⟩ : ∃ m : Nat, (e8.toNat : Int) / 2 % 4 = (m : Int) ∧ m < 4 := ⟨e8.toNat / 2 % 4, by omega, by omega⟩
            refine a_op ?_
            refine a_op ?_
            refine a_op (hs := by (simp (disch := omega) only [push_cast, hm] <;> rfl)) ?_
            refine a_op ?_
            refine s_nil (r_false ?_)
            refine q_next ?_
            refine k_seq ?_
            refine k_seq ?_
            refine k_region rfl ?_
            iterate 4 refine a_op ?_
            simp only [he8]
            refine a_op ?_
            refine a_op ?_
            refine s_nil (r_false ?_)
            refine q_next ?_
            refine a_if (fun hc4 => ?_) (fun hc4 => ?_)
            · (try simp only [Bool.and_eq_true, Bool.or_eq_true, Bool.or_eq_false_iff, Bool.not_eq_true', Bool.not_eq_false', dec_t, dec_f, Bool.and_eq_false_imp, beq_iff_eq, beq_eq_false_iff_ne, ne_eq] at hc4)
              refine k_seq ?_
              refine k_region rfl ?_
              skip
              · skip
                iterate 6 refine a_op ?_
                simp only [he]
                refine a_op ?_
                refine a_op ?_
                rw [W4_set l1 m e hm4]
                refine s_nil (r_false ?_)
                refine q_next ?_
                refine k_seq ?_
                refine k_region rfl ?_
                iterate 6 refine a_op ?_
                simp only [he]
                refine a_callp [.r 3 1 0, .r 15 6 0] [] [.r 15 6 0] false (wr_okR Γ (fun _ => []) l1 (by omega) h41 0 l1.length m e (by omega) (by omega) (by omega)) ?_
                refine a_call [] false (num_good Γ 0) ?_
                refine a_op ?_
                refine s_nil (r_false ?_)
                refine q_next ?_
                refine a_false ?_
                refine k_skip ?_
                refine q_next ?_
                refine k_seq ?_
                refine k_region rfl ?_
                refine a_op ?_
                refine s_nil (r_false ?_)
                refine q_next ?_
                refine k_block ?_
                refine k_loopF (fun sl L (j : Nat) => ⟨setAll (setBad sl [4, 12, 13, 14, 15, 16, 17, 18, 19, 20, 21, 22, 23, 24, 25, 26, 27, 28, 29, 30, 31, 32, 33, 34, 35, 36, 37, 38, 39, 40, 41, 42, 45, 46, 47, 48, 49, 50, 51, 52, 53, 54, 55, 56, 57, 58, 59, 60, 61, 62, 63, 64, 65, 66, 67, 68, 69, 70, 71, 72, 73, 74, 75, 76, 77, 78, 79, 80, 81, 82, 83, 84, 85, 86, 87, 88, 89, 90, 91, 92, 93, 94, 95, 96, 97, 98, 99, 100, 101, 102, 103, 104, 105, 106, 107, 108, 109, 110, 111, 112, 113, 114, 115, 116, 117, 118, 119, 120, 121, 122, 123, 124, 125, 126, 127, 128, 129, 130, 131, 132, 133, 134]) [(11, .t (num j))], Go.Ot.look (L)⟩) (fun j => j ≤ 4) (fun j => 4 - j) (0) (a_le ?_) ?_ ?_
                · refine le_same ?_ ?_ ?_ <;> simp [-List.map_set, -List.map_replicate, -List.reduceReplicate, -List.map_map, -List.map_drop, -List.map_take, num, bol, txt, w8, w16, w32, w64, lst, cls, rowO, boxO, List.take_of_length_le]
                · (first | omega | simp)
                · intro j hj
                  rcases (show j = 0 ∨ j = 1 ∨ j = 2 ∨ j = 3 ∨ j = 4 by omega) with rfl | rfl | rfl | rfl | rfl
                  · refine a_st ?_
                    refine k_seq ?_
                    refine k_seq ?_
                    refine k_region rfl ?_
                    refine a_op ?_
                    refine a_op ?_
                    refine s_nil (r_false ?_)
                    refine q_next ?_
                    refine a_true ?_
                    refine k_skip ?_
                    refine q_next ?_
                    refine k_seq ?_
                    refine k_block ?_
                    refine k_seq ?_
                    refine k_region rfl ?_
                    refine a_op ?_
                    refine a_op ?_
                    refine a_callp [.r 3 1 0, .r 15 6 0] [] [.r 15 6 0] false (rd_okR Γ (fun _ => []) (l1 ++ [(m, e)]) (by simp; omega) (In4_snoc h41 (by omega)) 0 (l1.length + 1) 0 (by omega)) ?_
                    iterate 5 refine a_op ?_
                    refine s_nil (r_false ?_)
                    refine q_next ?_
                    refine k_seq ?_
                    refine k_region rfl ?_
                    refine a_op ?_
                    refine a_op ?_
                    refine a_callp [.r 3 3 0, .r 18 6 0] [] [.r 18 6 0] false (rd_okR Γ (fun _ => []) l2 (by omega) h42 0 l2.length 0 (by omega)) ?_
                    iterate 5 refine a_op ?_
                    refine s_nil (r_false ?_)
                    refine q_next ?_
                    refine k_seq ?_
                    refine k_region rfl ?_
                    iterate 7 refine a_op ?_
                    refine a_go ?_
                    refine a_go ?_
                    refine a_go ?_
                    refine a_go ?_
                    refine a_go ?_
                    refine a_go ?_
                    refine a_op ?_
                    refine a_op ?_
                    refine a_go ?_
                    refine a_callgo [] false (num_good Γ 0) ?_
                    refine a_go ?_
                    refine a_callgo [] false (num_good Γ 0) ?_
                    refine a_go ?_
                    refine a_go ?_
                    refine a_op ?_
                    refine s_nil (r_false ?_)
                    refine q_next ?_
                    refine a_false ?_
                    refine k_skip ?_
                    refine q_block (q_next ?_)
                    refine k_region rfl ?_
                    iterate 3 refine a_op ?_
                    refine s_nil (r_false ?_)
                    refine q_loopF (1) (a_le ?_) ?_ ?_
                    · refine le_same ?_ ?_ ?_ <;> simp [-List.map_set, -List.map_replicate, -List.reduceReplicate, -List.map_map, -List.map_drop, -List.map_take, num, bol, txt, w8, w16, w32, w64, lst, cls, rowO, boxO, List.take_of_length_le]
                    · (first | omega | (simp_all <;> omega))
                    · (first | omega | (simp only []; omega))
                  · refine a_st ?_
                    refine k_seq ?_
                    refine k_seq ?_
                    refine k_region rfl ?_
                    refine a_op ?_
                    refine a_op ?_
                    refine s_nil (r_false ?_)
                    refine q_next ?_
                    refine a_true ?_
                    refine k_skip ?_
                    refine q_next ?_
                    refine k_seq ?_
                    refine k_block ?_
                    refine k_seq ?_
                    refine k_region rfl ?_
                    refine a_op ?_
                    refine a_op ?_
                    refine a_callp [.r 3 1 0, .r 15 6 0] [] [.r 15 6 0] false (rd_okR Γ (fun _ => []) (l1 ++ [(m, e)]) (by simp; omega) (In4_snoc h41 (by omega)) 0 (l1.length + 1) 1 (by omega)) ?_
                    iterate 5 refine a_op ?_
                    refine s_nil (r_false ?_)
                    refine q_next ?_
                    refine k_seq ?_
                    refine k_region rfl ?_
                    refine a_op ?_
                    refine a_op ?_
                    refine a_callp [.r 3 3 0, .r 18 6 0] [] [.r 18 6 0] false (rd_okR Γ (fun _ => []) l2 (by omega) h42 0 l2.length 1 (by omega)) ?_
                    iterate 5 refine a_op ?_
                    refine s_nil (r_false ?_)
                    refine q_next ?_
                    refine k_seq ?_
                    refine k_region rfl ?_
                    iterate 7 refine a_op ?_
                    refine a_go ?_
                    refine a_go ?_
                    refine a_go ?_
                    refine a_go ?_
                    refine a_go ?_
                    refine a_go ?_
                    refine a_op ?_
                    refine a_op ?_
                    refine a_go ?_
                    refine a_callgo [] false (num_good Γ 0) ?_
                    refine a_go ?_
                    refine a_callgo [] false (num_good Γ 0) ?_
                    refine a_go ?_
                    refine a_go ?_
                    refine a_op ?_
                    refine s_nil (r_false ?_)
                    refine q_next ?_
                    refine a_false ?_
                    refine k_skip ?_
                    refine q_block (q_next ?_)
                    refine k_region rfl ?_
                    iterate 3 refine a_op ?_
                    refine s_nil (r_false ?_)
                    refine q_loopF (2) (a_le ?_) ?_ ?_
                    · refine le_same ?_ ?_ ?_ <;> simp [-List.map_set, -List.map_replicate, -List.reduceReplicate, -List.map_map, -List.map_drop, -List.map_take, num, bol, txt, w8, w16, w32, w64, lst, cls, rowO, boxO, List.take_of_length_le]
                    · (first | omega | (simp_all <;> omega))
                    · (first | omega | (simp only []; omega))
                  · refine a_st ?_
                    refine k_seq ?_
                    refine k_seq ?_
                    refine k_region rfl ?_
                    refine a_op ?_
                    refine a_op ?_
                    refine s_nil (r_false ?_)
                    refine q_next ?_
                    refine a_true ?_
                    refine k_skip ?_
                    refine q_next ?_
                    refine k_seq ?_
                    refine k_block ?_
                    refine k_seq ?_
                    refine k_region rfl ?_
                    refine a_op ?_
                    refine a_op ?_
                    refine a_callp [.r 3 1 0, .r 15 6 0] [] [.r 15 6 0] false (rd_okR Γ (fun _ => []) (l1 ++ [(m, e)]) (by simp; omega) (In4_snoc h41 (by omega)) 0 (l1.length + 1) 2 (by omega)) ?_
                    iterate 5 refine a_op ?_
                    refine s_nil (r_false ?_)
                    refine q_next ?_
                    refine k_seq ?_
                    refine k_region rfl ?_
                    refine a_op ?_
                    refine a_op ?_
                    refine a_callp [.r 3 3 0, .r 18 6 0] [] [.r 18 6 0] false (rd_okR Γ (fun _ => []) l2 (by omega) h42 0 l2.length 2 (by omega)) ?_
                    iterate 5 refine a_op ?_
                    refine s_nil (r_false ?_)
                    refine q_next ?_
                    refine k_seq ?_
                    refine k_region rfl ?_
                    iterate 7 refine a_op ?_
                    refine a_go ?_
                    refine a_go ?_
                    refine a_go ?_
                    refine a_go ?_
                    refine a_go ?_
                    refine a_go ?_
                    refine a_op ?_
                    refine a_op ?_
                    refine a_go ?_
                    refine a_callgo [] false (num_good Γ 0) ?_
                    refine a_go ?_
                    refine a_callgo [] false (num_good Γ 0) ?_
                    refine a_go ?_
                    refine a_go ?_
                    refine a_op ?_
                    refine s_nil (r_false ?_)
                    refine q_next ?_
                    refine a_false ?_
                    refine k_skip ?_
                    refine q_block (q_next ?_)
                    refine k_region rfl ?_
                    iterate 3 refine a_op ?_
                    refine s_nil (r_false ?_)
                    refine q_loopF (3) (a_le ?_) ?_ ?_
                    · refine le_same ?_ ?_ ?_ <;> simp [-List.map_set, -List.map_replicate, -List.reduceReplicate, -List.map_map, -List.map_drop, -List.map_take, num, bol, txt, w8, w16, w32, w64, lst, cls, rowO, boxO, List.take_of_length_le]
                    · (first | omega | (simp_all <;> omega))
                    · (first | omega | (simp only []; omega))
                  · refine a_st ?_
                    refine k_seq ?_
                    refine k_seq ?_
                    refine k_region rfl ?_
                    refine a_op ?_
                    refine a_op ?_
                    refine s_nil (r_false ?_)
                    refine q_next ?_
                    refine a_true ?_
                    refine k_skip ?_
                    refine q_next ?_
                    refine k_seq ?_
                    refine k_block ?_
                    refine k_seq ?_
                    refine k_region rfl ?_
                    refine a_op ?_
                    refine a_op ?_
                    refine a_callp [.r 3 1 0, .r 15 6 0] [] [.r 15 6 0] false (rd_okR Γ (fun _ => []) (l1 ++ [(m, e)]) (by simp; omega) (In4_snoc h41 (by omega)) 0 (l1.length + 1) 3 (by omega)) ?_
                    iterate 5 refine a_op ?_
                    refine s_nil (r_false ?_)
                    refine q_next ?_
                    refine k_seq ?_
                    refine k_region rfl ?_
                    refine a_op ?_
                    refine a_op ?_
                    refine a_callp [.r 3 3 0, .r 18 6 0] [] [.r 18 6 0] false (rd_okR Γ (fun _ => []) l2 (by omega) h42 0 l2.length 3 (by omega)) ?_
                    iterate 5 refine a_op ?_
                    refine s_nil (r_false ?_)
                    refine q_next ?_
                    refine k_seq ?_
                    refine k_region rfl ?_
                    iterate 7 refine a_op ?_
                    refine a_go ?_
                    refine a_go ?_
                    refine a_go ?_
                    refine a_go ?_
                    refine a_go ?_
                    refine a_go ?_
                    refine a_op ?_
                    refine a_op ?_
                    refine a_go ?_
                    refine a_callgo [] false (num_good Γ 0) ?_
                    refine a_go ?_
                    refine a_callgo [] false (num_good Γ 0) ?_
                    refine a_go ?_
                    refine a_go ?_
                    refine a_op ?_
                    refine s_nil (r_false ?_)
                    refine q_next ?_
                    refine a_false ?_
                    refine k_skip ?_
                    refine q_block (q_next ?_)
                    refine k_region rfl ?_
                    iterate 3 refine a_op ?_
                    refine s_nil (r_false ?_)
                    refine q_loopF (4) (a_le ?_) ?_ ?_
                    · refine le_same ?_ ?_ ?_ <;> simp [-List.map_set, -List.map_replicate, -List.reduceReplicate, -List.map_map, -List.map_drop, -List.map_take, num, bol, txt, w8, w16, w32, w64, lst, cls, rowO, boxO, List.take_of_length_le]
                    · (first | omega | (simp_all <;> omega))
                    · (first | omega | (simp only []; omega))
                  · refine a_st ?_
                    refine k_seq ?_
                    refine k_seq ?_
                    refine k_region rfl ?_
                    refine a_op ?_
                    refine a_op ?_
                    refine s_nil (r_false ?_)
                    refine q_next ?_
                    refine a_false ?_
                    refine k_exit ?_
                    refine q_seq_exit (q_loopF_exit (q_block_exit (q_block (q_next ?_))))
                    refine k_region rfl ?_
                    iterate 3 refine a_op ?_
                    refine s_nil (r_false ?_)
                    refine q_loopF ((i + 1, false, (l1 ++ [(m, e)]), false, l2)) (a_le ?_) ?_ ?_
                    · refine le_same ?_ ?_ ?_ <;> simp [-List.map_set, -List.map_replicate, -List.reduceReplicate, -List.map_map, -List.map_drop, -List.map_take, num, bol, txt, w8, w16, w32, w64, lst, cls, rowO, boxO, List.take_of_length_le, chL_app, chL]
                    · refine ⟨?_, ?_, ?_, ?_, ?_, ?_, ?_⟩ <;> simp only [List.length_append, List.length_cons, List.length_nil] <;> first | omega | exact In4_nil | exact In4_snoc h41 hm4 | exact In4_snoc h42 hm4 | exact In4_snoc In4_nil hm4 | exact h41 | exact h42 | (intro _; trivial) | (intro h; cases h) | (simp; done)
                    · simp only []; omega
            · (try simp only [Bool.and_eq_true, Bool.or_eq_true, Bool.or_eq_false_iff, Bool.not_eq_true', Bool.not_eq_false', dec_t, dec_f, Bool.and_eq_false_imp, beq_iff_eq, beq_eq_false_iff_ne, ne_eq] at hc4)
              refine k_seq ?_
              refine k_region rfl ?_
              skip
              · skip
                iterate 6 refine a_op ?_
                simp only [he]
                refine a_op ?_
                refine a_op ?_
                rw [W4_set l2 m e hm4]
                refine s_nil (r_false ?_)
                refine q_next ?_
                refine k_seq ?_
                refine k_region rfl ?_
                iterate 6 refine a_op ?_
                simp only [he]
                refine a_callp [.r 3 3 0, .r 18 6 0] [] [.r 18 6 0] false (wr_okR Γ (fun _ => []) l2 (by omega) h42 0 l2.length m e (by omega) (by omega) (by omega)) ?_
                refine a_call [] false (num_good Γ 0) ?_
                refine a_op ?_
                refine s_nil (r_false ?_)
                refine q_next ?_
                refine a_false ?_
                refine k_skip ?_
                refine q_next ?_
                refine k_seq ?_
                refine k_region rfl ?_
                refine a_op ?_
                refine s_nil (r_false ?_)
                refine q_next ?_
                refine k_block ?_
                refine k_loopF (fun sl L (j : Nat) => ⟨setAll (setBad sl [4, 12, 13, 14, 15, 16, 17, 18, 19, 20, 21, 22, 23, 24, 25, 26, 27, 28, 29, 30, 31, 32, 33, 34, 35, 36, 37, 38, 39, 40, 41, 42, 45, 46, 47, 48, 49, 50, 51, 52, 53, 54, 55, 56, 57, 58, 59, 60, 61, 62, 63, 64, 65, 66, 67, 68, 69, 70, 71, 72, 73, 74, 75, 76, 77, 78, 79, 80, 81, 82, 83, 84, 85, 86, 87, 88, 89, 90, 91, 92, 93, 94, 95, 96, 97, 98, 99, 100, 101, 102, 103, 104, 105, 106, 107, 108, 109, 110, 111, 112, 113, 114, 115, 116, 117, 118, 119, 120, 121, 122, 123, 124, 125, 126, 127, 128, 129, 130, 131, 132, 133, 134]) [(11, .t (num j))], Go.Ot.look (L)⟩) (fun j => j ≤ 4) (fun j => 4 - j) (0) (a_le ?_) ?_ ?_
                · refine le_same ?_ ?_ ?_ <;> simp [-List.map_set, -List.map_replicate, -List.reduceReplicate, -List.map_map, -List.map_drop, -List.map_take, num, bol, txt, w8, w16, w32, w64, lst, cls, rowO, boxO, List.take_of_length_le]
                · (first | omega | simp)
                · intro j hj
                  rcases (show j = 0 ∨ j = 1 ∨ j = 2 ∨ j = 3 ∨ j = 4 by omega) with rfl | rfl | rfl | rfl | rfl
                  · refine a_st ?_
                    refine k_seq ?_
                    refine k_seq ?_
                    refine k_region rfl ?_
                    refine a_op ?_
                    refine a_op ?_
                    refine s_nil (r_false ?_)
                    refine q_next ?_
                    refine a_true ?_
                    refine k_skip ?_
                    refine q_next ?_
                    refine k_seq ?_
                    refine k_block ?_
                    refine k_seq ?_
                    refine k_region rfl ?_
                    refine a_op ?_
                    refine a_op ?_
                    refine a_callp [.r 3 1 0, .r 15 6 0] [] [.r 15 6 0] false (rd_okR Γ (fun _ => []) l1 (by omega) h41 0 l1.length 0 (by omega)) ?_
                    iterate 5 refine a_op ?_
                    refine s_nil (r_false ?_)
                    refine q_next ?_
                    refine k_seq ?_
                    refine k_region rfl ?_
                    refine a_op ?_
                    refine a_op ?_
                    refine a_callp [.r 3 3 0, .r 18 6 0] [] [.r 18 6 0] false (rd_okR Γ (fun _ => []) (l2 ++ [(m, e)]) (by simp; omega) (In4_snoc h42 (by omega)) 0 (l2.length + 1) 0 (by omega)) ?_
                    iterate 5 refine a_op ?_
                    refine s_nil (r_false ?_)
                    refine q_next ?_
                    refine k_seq ?_
                    refine k_region rfl ?_
                    iterate 7 refine a_op ?_
                    refine a_go ?_
                    refine a_go ?_
                    refine a_go ?_
                    refine a_go ?_
                    refine a_go ?_
                    refine a_go ?_
                    refine a_op ?_
                    refine a_op ?_
                    refine a_go ?_
                    refine a_callgo [] false (num_good Γ 0) ?_
                    refine a_go ?_
                    refine a_callgo [] false (num_good Γ 0) ?_
                    refine a_go ?_
                    refine a_go ?_
                    refine a_op ?_
                    refine s_nil (r_false ?_)
                    refine q_next ?_
                    refine a_false ?_
                    refine k_skip ?_
                    refine q_block (q_next ?_)
                    refine k_region rfl ?_
                    iterate 3 refine a_op ?_
                    refine s_nil (r_false ?_)
                    refine q_loopF (1) (a_le ?_) ?_ ?_
                    · refine le_same ?_ ?_ ?_ <;> simp [-List.map_set, -List.map_replicate, -List.reduceReplicate, -List.map_map, -List.map_drop, -List.map_take, num, bol, txt, w8, w16, w32, w64, lst, cls, rowO, boxO, List.take_of_length_le]
                    · (first | omega | (simp_all <;> omega))
                    · (first | omega | (simp only []; omega))
                  · refine a_st ?_
                    refine k_seq ?_
                    refine k_seq ?_
                    refine k_region rfl ?_
                    refine a_op ?_
                    refine a_op ?_
                    refine s_nil (r_false ?_)
                    refine q_next ?_
                    refine a_true ?_
                    refine k_skip ?_
                    refine q_next ?_
                    refine k_seq ?_
                    refine k_block ?_
                    refine k_seq ?_
                    refine k_region rfl ?_
                    refine a_op ?_
                    refine a_op ?_
                    refine a_callp [.r 3 1 0, .r 15 6 0] [] [.r 15 6 0] false (rd_okR Γ (fun _ => []) l1 (by omega) h41 0 l1.length 1 (by omega)) ?_
                    iterate 5 refine a_op ?_
                    refine s_nil (r_false ?_)
                    refine q_next ?_
                    refine k_seq ?_
                    refine k_region rfl ?_
                    refine a_op ?_
                    refine a_op ?_
                    refine a_callp [.r 3 3 0, .r 18 6 0] [] [.r 18 6 0] false (rd_okR Γ (fun _ => []) (l2 ++ [(m, e)]) (by simp; omega) (In4_snoc h42 (by omega)) 0 (l2.length + 1) 1 (by omega)) ?_
                    iterate 5 refine a_op ?_
                    refine s_nil (r_false ?_)
                    refine q_next ?_
                    refine k_seq ?_
                    refine k_region rfl ?_
                    iterate 7 refine a_op ?_
                    refine a_go ?_
                    refine a_go ?_
                    refine a_go ?_
                    refine a_go ?_
                    refine a_go ?_
                    refine a_go ?_
                    refine a_op ?_
                    refine a_op ?_
                    refine a_go ?_
                    refine a_callgo [] false (num_good Γ 0) ?_
                    refine a_go ?_
                    refine a_callgo [] false (num_good Γ 0) ?_
                    refine a_go ?_
                    refine a_go ?_
                    refine a_op ?_
                    refine s_nil (r_false ?_)
                    refine q_next ?_
                    refine a_false ?_
                    refine k_skip ?_
                    refine q_block (q_next ?_)
                    refine k_region rfl ?_
                    iterate 3 refine a_op ?_
                    refine s_nil (r_false ?_)
                    refine q_loopF (2) (a_le ?_) ?_ ?_
                    · refine le_same ?_ ?_ ?_ <;> simp [-List.map_set, -List.map_replicate, -List.reduceReplicate, -List.map_map, -List.map_drop, -List.map_take, num, bol, txt, w8, w16, w32, w64, lst, cls, rowO, boxO, List.take_of_length_le]
                    · (first | omega | (simp_all <;> omega))
                    · (first | omega | (simp only []; omega))
                  · refine a_st ?_
                    refine k_seq ?_
                    refine k_seq ?_
                    refine k_region rfl ?_
                    refine a_op ?_
                    refine a_op ?_
                    refine s_nil (r_false ?_)
                    refine q_next ?_
                    refine a_true ?_
                    refine k_skip ?_
                    refine q_next ?_
                    refine k_seq ?_
                    refine k_block ?_
                    refine k_seq ?_
                    refine k_region rfl ?_
                    refine a_op ?_
                    refine a_op ?_
                    refine a_callp [.r 3 1 0, .r 15 6 0] [] [.r 15 6 0] false (rd_okR Γ (fun _ => []) l1 (by omega) h41 0 l1.length 2 (by omega)) ?_
                    iterate 5 refine a_op ?_
                    refine s_nil (r_false ?_)
                    refine q_next ?_
                    refine k_seq ?_
                    refine k_region rfl ?_
                    refine a_op ?_
                    refine a_op ?_
                    refine a_callp [.r 3 3 0, .r 18 6 0] [] [.r 18 6 0] false (rd_okR Γ (fun _ => []) (l2 ++ [(m, e)]) (by simp; omega) (In4_snoc h42 (by omega)) 0 (l2.length + 1) 2 (by omega)) ?_
                    iterate 5 refine a_op ?_
                    refine s_nil (r_false ?_)
                    refine q_next ?_
                    refine k_seq ?_
                    refine k_region rfl ?_
                    iterate 7 refine a_op ?_
                    refine a_go ?_
                    refine a_go ?_
                    refine a_go ?_
                    refine a_go ?_
                    refine a_go ?_
                    refine a_go ?_
                    refine a_op ?_
                    refine a_op ?_
                    refine a_go ?_
                    refine a_callgo [] false (num_good Γ 0) ?_
                    refine a_go ?_
                    refine a_callgo [] false (num_good Γ 0) ?_
                    refine a_go ?_
                    refine a_go ?_
                    refine a_op ?_
                    refine s_nil (r_false ?_)
                    refine q_next ?_
                    refine a_false ?_
                    refine k_skip ?_
                    refine q_block (q_next ?_)
                    refine k_region rfl ?_
                    iterate 3 refine a_op ?_
                    refine s_nil (r_false ?_)
                    refine q_loopF (3) (a_le ?_) ?_ ?_
                    · refine le_same ?_ ?_ ?_ <;> simp [-List.map_set, -List.map_replicate, -List.reduceReplicate, -List.map_map, -List.map_drop, -List.map_take, num, bol, txt, w8, w16, w32, w64, lst, cls, rowO, boxO, List.take_of_length_le]
                    · (first | omega | (simp_all <;> omega))
                    · (first | omega | (simp only []; omega))
                  · refine a_st ?_
                    refine k_seq ?_
                    refine k_seq ?_
                    refine k_region rfl ?_
                    refine a_op ?_
                    refine a_op ?_
                    refine s_nil (r_false ?_)
                    refine q_next ?_
                    refine a_true ?_
                    refine k_skip ?_
                    refine q_next ?_
                    refine k_seq ?_
                    refine k_block ?_
                    refine k_seq ?_
                    refine k_region rfl ?_
                    refine a_op ?_
                    refine a_op ?_
                    refine a_callp [.r 3 1 0, .r 15 6 0] [] [.r 15 6 0] false (rd_okR Γ (fun _ => []) l1 (by omega) h41 0 l1.length 3 (by omega)) ?_
                    iterate 5 refine a_op ?_
                    refine s_nil (r_false ?_)
                    refine q_next ?_
                    refine k_seq ?_
                    refine k_region rfl ?_
                    refine a_op ?_
                    refine a_op ?_
                    refine a_callp [.r 3 3 0, .r 18 6 0] [] [.r 18 6 0] false (rd_okR Γ (fun _ => []) (l2 ++ [(m, e)]) (by simp; omega) (In4_snoc h42 (by omega)) 0 (l2.length + 1) 3 (by omega)) ?_
                    iterate 5 refine a_op ?_
                    refine s_nil (r_false ?_)
                    refine q_next ?_
                    refine k_seq ?_
                    refine k_region rfl ?_
                    iterate 7 refine a_op ?_
                    refine a_go ?_
                    refine a_go ?_
                    refine a_go ?_
                    refine a_go ?_
                    refine a_go ?_
                    refine a_go ?_
                    refine a_op ?_
                    refine a_op ?_
                    refine a_go ?_
                    refine a_callgo [] false (num_good Γ 0) ?_
                    refine a_go ?_
                    refine a_callgo [] false (num_good Γ 0) ?_
                    refine a_go ?_
                    refine a_go ?_
                    refine a_op ?_
                    refine s_nil (r_false ?_)
                    refine q_next ?_
                    refine a_false ?_
                    refine k_skip ?_
                    refine q_block (q_next ?_)
                    refine k_region rfl ?_
                    iterate 3 refine a_op ?_
                    refine s_nil (r_false ?_)
                    refine q_loopF (4) (a_le ?_) ?_ ?_
                    · refine le_same ?_ ?_ ?_ <;> simp [-List.map_set, -List.map_replicate, -List.reduceReplicate, -List.map_map, -List.map_drop, -List.map_take, num, bol, txt, w8, w16, w32, w64, lst, cls, rowO, boxO, List.take_of_length_le]
                    · (first | omega | (simp_all <;> omega))
                    · (first | omega | (simp only []; omega))
                  · refine a_st ?_
                    refine k_seq ?_
                    refine k_seq ?_
                    refine k_region rfl ?_
                    refine a_op ?_
                    refine a_op ?_
                    refine s_nil (r_false ?_)
                    refine q_next ?_
                    refine a_false ?_
                    refine k_exit ?_
                    refine q_seq_exit (q_loopF_exit (q_block_exit (q_block (q_next ?_))))
                    refine k_region rfl ?_
                    iterate 3 refine a_op ?_
                    refine s_nil (r_false ?_)
                    refine q_loopF ((i + 1, false, l1, false, (l2 ++ [(m, e)]))) (a_le ?_) ?_ ?_
                    · refine le_same ?_ ?_ ?_ <;> simp [-List.map_set, -List.map_replicate, -List.reduceReplicate, -List.map_map, -List.map_drop, -List.map_take, num, bol, txt, w8, w16, w32, w64, lst, cls, rowO, boxO, List.take_of_length_le, chL_app, chL]
                    · refine ⟨?_, ?_, ?_, ?_, ?_, ?_, ?_⟩ <;> simp only [List.length_append, List.length_cons, List.length_nil] <;> first | omega | exact In4_nil | exact In4_snoc h41 hm4 | exact In4_snoc h42 hm4 | exact In4_snoc In4_nil hm4 | exact h41 | exact h42 | (intro _; trivial) | (intro h; cases h) | (simp; done)
                    · simp only []; omega
        · (try simp only [Bool.and_eq_true, Bool.or_eq_true, Bool.or_eq_false_iff, Bool.not_eq_true', Bool.not_eq_false', dec_t, dec_f, Bool.and_eq_false_imp, beq_iff_eq, beq_eq_false_iff_ne, ne_eq] at hc2)
          refine k_exit ?_
          refine q_seq_exit (q_loopF_exit (q_block_exit (q_next ?_)))
          refine k_seq ?_
          refine k_region rfl ?_
          refine a_call [] false (awake_good Γ hE) ?_
          refine a_op ?_
          refine s_nil (r_false ?_)
          refine q_next ?_
          refine k_ret ?_
          refine ⟨.inr rfl, a_ret [] (by rw [results3]) ?_ ?_ ?_⟩ <;> simp [-List.map_set, -List.map_replicate, -List.reduceReplicate, -List.map_map, -List.map_drop, -List.map_take, num, bol, txt, w8, w16, w32, w64, lst, cls, rowO, boxO, List.take_of_length_le]

end Go.Proofs.Tryd
