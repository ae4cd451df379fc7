import Derived.Test.YtbpponebopnfaaaDoorSL1
set_option maxHeartbeats 4000000
set_option maxRecDepth 100000
set_option linter.unusedVariables false
set_option linter.unusedSimpArgs false
namespace Go.Proofs.Tryd
open Go Go.Ot

def SAFE : List UInt8 := [115, 97, 102, 101]
@[push_cast] theorem SAFE_eq : ([115, 97, 102, 101] : List UInt8) = SAFE := rfl
def wL : Nat → St4
  | 0 => fun _ => []
  | i + 1 => upd (wL i) i SAFE
def c0 : Nat → Chs
  | 0 => []
  | i + 1 => c0 i ++ [(i, SAFE)]
@[simp, push_cast] theorem c0_len : ∀ i, (c0 i).length = i
  | 0 => rfl
  | i + 1 => by simp [c0, c0_len i]
theorem c0_in : ∀ i, i ≤ 4 → In4 (c0 i)
  | 0, _ => In4_nil
  | i + 1, h => In4_snoc (c0_in i (by omega)) (by omega)
def zB : Nat → Bool
  | 0 => true
  | _ + 1 => false
@[push_cast] theorem zB0 : zB 0 = true := rfl
@[push_cast] theorem zB1 : zB 1 = false := rfl
@[push_cast] theorem zB2 : zB 2 = false := rfl
@[push_cast] theorem zB3 : zB 3 = false := rfl
@[push_cast] theorem zB4 : zB 4 = false := rfl
theorem n40 : nowF (fun _ => []) (c0 4) 0 = SAFE := rfl
theorem n41 : nowF (fun _ => []) (c0 4) 1 = SAFE := rfl
theorem n42 : nowF (fun _ => []) (c0 4) 2 = SAFE := rfl
theorem n43 : nowF (fun _ => []) (c0 4) 3 = SAFE := rfl
def xF (i : Nat) : List UInt8 := [UInt8.ofInt (97 + (i : Int))]
theorem x97 (i : Nat) (h : i ≤ 100) : (97 : Int) + (i : Int) = ((UInt8.ofInt (97 + (i : Int))).toNat : Int) := by
  rw [UInt8.ofInt, UInt8.toNat_ofNat']
  omega
theorem xF0 : xF 0 = [97] := rfl
def cF (is : List UInt8) : Nat → Chs
  | 0 => []
  | i + 1 => cF is i ++ [((is.getD i default).toNat % 4, xF i)]
@[simp, push_cast] theorem cF_len (is : List UInt8) : ∀ i, (cF is i).length = i
  | 0 => rfl
  | i + 1 => by simp [cF, cF_len is i]
theorem cF_in (is : List UInt8) : ∀ i, In4 (cF is i)
  | 0 => In4_nil
  | i + 1 => In4_snoc (cF_in is i) (by omega)
theorem cF_get (is : List UInt8) (k : Nat) : ∀ n, k < n → (cF is n).getD k default = ((is.getD k default).toNat % 4, xF k)
  | 0, h => by omega
  | n + 1, h => by
    rcases Nat.lt_or_ge k n with h1 | h1
    · have := cF_get is k n h1
      rw [cF, List.getD_eq_getElem?_getD, List.getElem?_append_left (by rw [cF_len]; exact h1), ← List.getD_eq_getElem?_getD]
      exact this
    · obtain rfl : k = n := by omega
      rw [cF, List.getD_eq_getElem?_getD, List.getElem?_append_right (by rw [cF_len]; exact Nat.le_refl _), cF_len]
      simp
def wF (is : List UInt8) (ks : List Bool) : Nat → St4
  | 0 => fun _ => SAFE
  | i + 1 => if ks.getD (i % ks.length) default = true then upd (wF is ks i) ((is.getD i default).toNat % 4) (xF i) else wF is ks i
@[push_cast] theorem wF_0 (is : List UInt8) (ks : List Bool) (j : Nat) : wF is ks 0 j = SAFE := rfl
theorem fall_eq (is : List UInt8) (ks : List Bool) (hk : 0 < ks.length) (n : Nat) : ∀ k, k ≤ n → fallF (fun _ => SAFE) (cF is n) ks k = wF is ks k
  | 0, _ => rfl
  | k + 1, h => by
    rw [fallF, wF, fall_eq is ks hk n k (by omega), cF_get is k n (by omega)]
    by_cases h2 : ks.getD (k % ks.length) default = true
    · rw [if_pos ⟨hk, h2⟩, if_pos h2]
    · rw [if_neg (fun h => h2 h.2), if_neg h2]
attribute [local irreducible] wpK wpS seqK blockK loopF regK meetK OpSpec Le nowF fallF
theorem falls_good (Γ : Gl) (hE : EG Γ) (is : List UInt8) (ks : List Bool) (b0 : is.length ≤ maxLen) (b1 : ks.length ≤ maxLen) : Go.Ot.Good Γ prog 4 [.t (lst w8 is), .t (lst bol ks)] [] (.t (bol true)) [] [] := by
  refine a_body F.mix func4 (by rfl) ntmps4 ?_
  refine k_seq ?_
  refine k_region rfl ?_
  refine a_op ?_
  refine s_nil (r_false ?_)
  refine q_next ?_
  refine k_seq ?_
  refine k_seq ?_
  refine k_region rfl ?_
  iterate 4 refine a_op ?_
  first | refine a_go ?_ | refine a_no ?_ | refine a_may ?_
  first | refine a_go ?_ | refine a_no ?_ | refine a_may ?_
  first | refine a_go ?_ | refine a_no ?_ | refine a_may ?_
  refine a_op ?_
  refine a_op ?_
  first | refine a_go ?_ | refine a_no ?_ | refine a_may ?_
  first | refine a_go ?_ | refine a_no ?_ | refine a_may ?_
  first | refine a_go ?_ | refine a_no ?_ | refine a_may ?_
  refine a_op ?_
  refine s_nil (r_false ?_)
  refine q_next ?_
  refine a_if (fun hc0 => ?_) (fun hc0 => ?_)
  · (try simp only [Bool.and_eq_true, Bool.or_eq_true, Bool.or_eq_false_iff, Bool.not_eq_true', Bool.not_eq_false', dec_t, dec_f, Bool.and_eq_false_imp, beq_iff_eq, beq_eq_false_iff_ne, ne_eq] at hc0)
    refine k_seq ?_
    refine k_region rfl ?_
    refine a_call [] false (awake_good Γ hE) ?_
    refine a_op ?_
    refine s_nil (r_false ?_)
    refine q_next ?_
    refine k_ret ?_
    refine q_seq_ret ?_
    refine ⟨.inr rfl, a_ret [] (by rw [results4]) ?_ ?_ ?_⟩ <;> simp [-List.map_set, -List.map_replicate, -List.reduceReplicate, -List.map_map, -List.map_drop, -List.map_take, num, bol, txt, w8, w16, w32, w64, lst, cls, rowO, boxO, List.take_of_length_le]
  · (try simp only [Bool.and_eq_true, Bool.or_eq_true, Bool.or_eq_false_iff, Bool.not_eq_true', Bool.not_eq_false', dec_t, dec_f, Bool.and_eq_false_imp, beq_iff_eq, beq_eq_false_iff_ne, ne_eq] at hc0)
    refine k_skip ?_
    refine q_next ?_
    refine k_seq ?_
    refine k_region rfl ?_
    refine a_op ?_
    refine a_call [] false (New_good Γ 0 (.v (.slice none 0 0))) ?_
    refine a_op ?_
    refine s_nil (r_false ?_)
    refine q_next ?_
    refine k_seq ?_
    refine k_seq ?_
    refine k_region rfl ?_
    refine a_op ?_
    refine a_by (spec_ptrNil false rfl rfl (by kernel_rfl)) ?_
    refine s_nil (r_false ?_)
    refine q_next ?_
    refine a_false ?_
    refine k_skip ?_
    refine q_next ?_
    refine k_seq ?_
    refine k_region rfl ?_
    refine a_op ?_
    refine a_op ?_
    refine s_nil (r_false ?_)
    refine q_next ?_
    refine k_seq ?_
    refine k_seq ?_
    refine k_region rfl ?_
    refine a_op ?_
    refine s_nil (r_false ?_)
    refine q_next ?_
    refine k_block ?_
    refine k_loopF (fun sl L (i : Nat) => ⟨setAll (setBad sl [15, 16, 17, 18, 19, 20, 21, 22, 23, 24, 25, 26, 27, 28, 29, 30, 31, 32, 33, 34, 35, 36, 37, 38, 39, 40, 41, 42, 43]) [(7, .t (num i))], Go.Ot.look (putL (.r 3 1 0) (boxO 57 [.t (txt ((fun _ : Nat => ([] : List UInt8)) 0)), .t (txt ((fun _ : Nat => ([] : List UInt8)) 1)), .t (txt ((fun _ : Nat => ([] : List UInt8)) 2)), .t (txt ((fun _ : Nat => ([] : List UInt8)) 3)), loD (zB i) (.r 11 2 0) i, .t (num (0)), .t (.v (.slice none 0 0)), .t (num (i)), .t (bol (false))]) (putL (.r 6 0 0) (⟨[.t (txt (wL i 0)), .t (txt (wL i 1)), .t (txt (wL i 2)), .t (txt (wL i 3))], 9, true, true⟩) (rowL (zB i) (.r 11 2 0) (c0 i) L)))⟩) (fun i => i ≤ 4) (fun i => 4 - i) (0) (a_le ?_) ?_ ?_
    · refine le_same ?_ ?_ ?_ <;> simp [-List.map_set, -List.map_replicate, -List.reduceReplicate, -List.map_map, -List.map_drop, -List.map_take, num, bol, txt, w8, w16, w32, w64, lst, cls, rowO, boxO, List.take_of_length_le, wL]
    · (first | omega | simp)
    · intro i hi
      rcases (show i = 0 ∨ i = 1 ∨ i = 2 ∨ i = 3 ∨ i = 4 by omega) with rfl | rfl | rfl | rfl | rfl
      · refine a_st ?_
        refine k_seq ?_
        refine k_seq ?_
        refine k_region rfl ?_
        refine a_op ?_
        refine a_op ?_
        refine s_nil (r_false ?_)
        refine q_next ?_
        refine a_true ?_
        refine k_skip ?_
        refine q_next ?_
        refine k_seq ?_
        refine k_block ?_
        refine k_seq ?_
        refine k_region rfl ?_
        iterate 4 refine a_op ?_
        refine s_nil (r_false ?_)
        refine q_next ?_
        refine k_region rfl ?_
        refine a_op ?_
        refine a_op ?_
        refine a_callp [.r 3 1 0] [] [] false (wr_okN Γ (fun _ => []) 0 0 0 SAFE (by omega) (by omega) (by omega)) ?_
        refine s_nil (r_false ?_)
        refine q_block (q_next ?_)
        refine k_region rfl ?_
        iterate 3 refine a_op ?_
        refine s_nil (r_false ?_)
        refine q_loopF (1) (a_le ?_) ?_ ?_
        · refine le_same ?_ ?_ ?_ <;> simp [-List.map_set, -List.map_replicate, -List.reduceReplicate, -List.map_map, -List.map_drop, -List.map_take, num, bol, txt, w8, w16, w32, w64, lst, cls, rowO, boxO, List.take_of_length_le, wL, c0, zB, c0_len, upd_00, upd_01, upd_02, upd_03, upd_10, upd_11, upd_12, upd_13, upd_20, upd_21, upd_22, upd_23, upd_30, upd_31, upd_32, upd_33]
        · (first | omega | (simp_all <;> omega))
        · (first | omega | (simp only []; omega))
      · refine a_st ?_
        refine k_seq ?_
        refine k_seq ?_
        refine k_region rfl ?_
        refine a_op ?_
        refine a_op ?_
        refine s_nil (r_false ?_)
        refine q_next ?_
        refine a_true ?_
        refine k_skip ?_
        refine q_next ?_
        refine k_seq ?_
        refine k_block ?_
        refine k_seq ?_
        refine k_region rfl ?_
        iterate 4 refine a_op ?_
        refine s_nil (r_false ?_)
        refine q_next ?_
        refine k_region rfl ?_
        refine a_op ?_
        refine a_op ?_
        refine a_callp [.r 3 1 0, .r 11 2 0] [] [.r 11 2 0] false (wr_okR Γ (fun _ => []) (c0 1) (by rw [c0_len]; omega) (c0_in 1 (by omega)) 0 1 1 SAFE (by omega) (by omega) (by omega)) ?_
        refine s_nil (r_false ?_)
        refine q_block (q_next ?_)
        refine k_region rfl ?_
        iterate 3 refine a_op ?_
        refine s_nil (r_false ?_)
        refine q_loopF (2) (a_le ?_) ?_ ?_
        · refine le_same ?_ ?_ ?_ <;> simp [-List.map_set, -List.map_replicate, -List.reduceReplicate, -List.map_map, -List.map_drop, -List.map_take, num, bol, txt, w8, w16, w32, w64, lst, cls, rowO, boxO, List.take_of_length_le, wL, c0, zB, c0_len, upd_00, upd_01, upd_02, upd_03, upd_10, upd_11, upd_12, upd_13, upd_20, upd_21, upd_22, upd_23, upd_30, upd_31, upd_32, upd_33]
        · (first | omega | (simp_all <;> omega))
        · (first | omega | (simp only []; omega))
      · refine a_st ?_
        refine k_seq ?_
        refine k_seq ?_
        refine k_region rfl ?_
        refine a_op ?_
        refine a_op ?_
        refine s_nil (r_false ?_)
        refine q_next ?_
        refine a_true ?_
        refine k_skip ?_
        refine q_next ?_
        refine k_seq ?_
        refine k_block ?_
        refine k_seq ?_
        refine k_region rfl ?_
        iterate 4 refine a_op ?_
        refine s_nil (r_false ?_)
        refine q_next ?_
        refine k_region rfl ?_
        refine a_op ?_
        refine a_op ?_
        refine a_callp [.r 3 1 0, .r 11 2 0] [] [.r 11 2 0] false (wr_okR Γ (fun _ => []) (c0 2) (by rw [c0_len]; omega) (c0_in 2 (by omega)) 0 2 2 SAFE (by omega) (by omega) (by omega)) ?_
        refine s_nil (r_false ?_)
        refine q_block (q_next ?_)
        refine k_region rfl ?_
        iterate 3 refine a_op ?_
        refine s_nil (r_false ?_)
        refine q_loopF (3) (a_le ?_) ?_ ?_
        · refine le_same ?_ ?_ ?_ <;> simp [-List.map_set, -List.map_replicate, -List.reduceReplicate, -List.map_map, -List.map_drop, -List.map_take, num, bol, txt, w8, w16, w32, w64, lst, cls, rowO, boxO, List.take_of_length_le, wL, c0, zB, c0_len, upd_00, upd_01, upd_02, upd_03, upd_10, upd_11, upd_12, upd_13, upd_20, upd_21, upd_22, upd_23, upd_30, upd_31, upd_32, upd_33]
        · (first | omega | (simp_all <;> omega))
        · (first | omega | (simp only []; omega))
      · refine a_st ?_
        refine k_seq ?_
        refine k_seq ?_
        refine k_region rfl ?_
        refine a_op ?_
        refine a_op ?_
        refine s_nil (r_false ?_)
        refine q_next ?_
        refine a_true ?_
        refine k_skip ?_
        refine q_next ?_
        refine k_seq ?_
        refine k_block ?_
        refine k_seq ?_
        refine k_region rfl ?_
        iterate 4 refine a_op ?_
        refine s_nil (r_false ?_)
        refine q_next ?_
        refine k_region rfl ?_
        refine a_op ?_
        refine a_op ?_
        refine a_callp [.r 3 1 0, .r 11 2 0] [] [.r 11 2 0] false (wr_okR Γ (fun _ => []) (c0 3) (by rw [c0_len]; omega) (c0_in 3 (by omega)) 0 3 3 SAFE (by omega) (by omega) (by omega)) ?_
        refine s_nil (r_false ?_)
        refine q_block (q_next ?_)
        refine k_region rfl ?_
        iterate 3 refine a_op ?_
        refine s_nil (r_false ?_)
        refine q_loopF (4) (a_le ?_) ?_ ?_
        · refine le_same ?_ ?_ ?_ <;> simp [-List.map_set, -List.map_replicate, -List.reduceReplicate, -List.map_map, -List.map_drop, -List.map_take, num, bol, txt, w8, w16, w32, w64, lst, cls, rowO, boxO, List.take_of_length_le, wL, c0, zB, c0_len, upd_00, upd_01, upd_02, upd_03, upd_10, upd_11, upd_12, upd_13, upd_20, upd_21, upd_22, upd_23, upd_30, upd_31, upd_32, upd_33]
        · (first | omega | (simp_all <;> omega))
        · (first | omega | (simp only []; omega))
      · refine a_st ?_
        refine k_seq ?_
        refine k_seq ?_
        refine k_region rfl ?_
        refine a_op ?_
        refine a_op ?_
        refine s_nil (r_false ?_)
        refine q_next ?_
        refine a_false ?_
        refine k_exit ?_
        refine q_seq_exit (q_loopF_exit (q_block_exit (q_next ?_)))
        refine k_seq ?_
        refine k_region rfl ?_
        refine a_op ?_
        refine a_callp [.r 3 1 0, .r 11 2 0] [] [.r 11 2 0] false (sy_okR Γ (fun _ => []) (c0 4) (by rw [c0_len]; omega) (c0_in 4 (by omega)) 0 4 (by omega) (by omega)) ?_
        simp only [n40, n41, n42, n43]
        refine a_op ?_
        refine s_nil (r_false ?_)
        refine q_next ?_
        refine k_seq ?_
        refine k_seq ?_
        refine k_region rfl ?_
        refine a_op ?_
        refine s_nil (r_false ?_)
        refine q_next ?_
        refine k_block ?_
        refine k_loopF (fun sl L (q : Nat × Bool) => ⟨setAll (setBad sl [7, 10, 15, 16, 17, 18, 19, 20, 21, 22, 23, 24, 25, 26, 27, 28, 29, 30, 31, 32, 33, 34, 35, 36, 37, 38, 39, 40, 41, 42, 43, 44, 45, 46, 47, 48, 49, 50, 51, 52, 53, 54, 55, 56, 57, 58, 59, 60, 61, 62, 63, 64, 65, 66, 67, 68, 69, 70, 71, 72, 73, 74, 75, 76, 77, 78, 79, 80]) [(9, .t (num q.1))], Go.Ot.look (putL (.r 3 1 0) (boxO 57 [.t (txt ((fun _ => SAFE) 0)), .t (txt ((fun _ => SAFE) 1)), .t (txt ((fun _ => SAFE) 2)), .t (txt ((fun _ => SAFE) 3)), loD q.2 (.r 17 8 0) q.1, .t (num (0)), .t (.v (.slice none 0 0)), .t (num (5 + q.1)), .t (bol (false))]) (putL (.r 6 0 0) (⟨[.t (txt (wF is ks q.1 0)), .t (txt (wF is ks q.1 1)), .t (txt (wF is ks q.1 2)), .t (txt (wF is ks q.1 3))], 9, true, true⟩) (rowL q.2 (.r 17 8 0) (cF is q.1) L)))⟩) (fun q => q.1 ≤ is.length ∧ (q.2 = true ↔ q.1 = 0)) (fun q => is.length - q.1) ((0, true)) (a_le ?_) ?_ ?_
        · refine le_same ?_ ?_ ?_ <;> simp [-List.map_set, -List.map_replicate, -List.reduceReplicate, -List.map_map, -List.map_drop, -List.map_take, num, bol, txt, w8, w16, w32, w64, lst, cls, rowO, boxO, List.take_of_length_le, wF, wL, upd_00, upd_01, upd_02, upd_03, upd_10, upd_11, upd_12, upd_13, upd_20, upd_21, upd_22, upd_23, upd_30, upd_31, upd_32, upd_33] <;> (try exact hz)
        · exact ⟨Nat.zero_le _, by simp⟩
        · rintro ⟨i, z⟩ ⟨hi, hz⟩
          simp only at hi hz
          have hz2 : (z = false ∧ 0 < i) ∨ (z = true ∧ i = 0) := by rcases z with _ | _ <;> simp at hz <;> simp <;> omega
          clear hz
          rcases hz2 with ⟨rfl, hz⟩ | ⟨rfl, hz⟩
          · refine a_st ?_
            refine k_seq ?_
            refine k_seq ?_
            refine k_region rfl ?_
            iterate 4 refine a_op ?_
            refine s_nil (r_false ?_)
            refine q_next ?_
            refine a_if (fun hc3 => ?_) (fun hc3 => ?_)
            · (try simp only [Bool.and_eq_true, Bool.or_eq_true, Bool.or_eq_false_iff, Bool.not_eq_true', Bool.not_eq_false', dec_t, dec_f, Bool.and_eq_false_imp, beq_iff_eq, beq_eq_false_iff_ne, ne_eq] at hc3)
              refine k_skip ?_
              refine q_next ?_
              refine k_seq ?_
              refine k_block ?_
              refine k_seq ?_
              refine k_region rfl ?_
              iterate 3 refine a_op ?_
              obtain ⟨y, hy⟩ : ∃ y : UInt8, UInt8.ofInt (97 + (i : Int)) = y := ⟨_, rfl⟩
              have hX : xF i = [y] := by rw [xF, hy]
              rw [x97 i (by omega), hy]
              refine a_op ?_
              first | refine a_text ?_ | refine a_texts ?_
              refine a_op ?_
              refine s_nil (r_false ?_)
              refine q_next ?_
              refine k_seq ?_
              refine k_region rfl ?_
              obtain ⟨e8, he8⟩ : ∃ e, is.getD i 0 = e := ⟨_, rfl⟩
              have hx8 := e8.toNat_lt
              obtain ⟨m, hm, hm4, hme⟩ : ∃ m : Nat, (e8.toNat : Int) % 4 = (m : Int) ∧ m < 4 ∧ e8.toNat % 4 = m := ⟨e8.toNat % 4, by omega, by omega, rfl⟩
              obtain ⟨m2, hm2, hm2l, hm2e⟩ := mod_nat i ks.length (by omega)
              have hC : cF is (i + 1) = cF is i ++ [(m, [y])] := by rw [cF, show (default : UInt8) = 0 from rfl, he8, hme, hX]
              iterate 5 refine a_op ?_
              simp only [he8]
              refine a_op ?_
              refine a_op (hs := by (simp (disch := omega) only [push_cast, hm] <;> rfl)) ?_
              refine a_op ?_
              refine a_callp [.r 3 1 0, .r 17 8 0] [] [.r 17 8 0] false (wr_okR Γ (fun _ => SAFE) (cF is i) (by rw [cF_len]; omega) (cF_in is i) 0 (5 + i) m [y] hm4 (by omega) (by omega)) ?_
              refine s_nil (r_false ?_)
              refine q_next ?_
              refine k_seq ?_
              refine k_region rfl ?_
              iterate 4 refine a_op ?_
              refine a_op (hs := by (simp (disch := omega) only [push_cast, hm2] <;> rfl)) ?_
              refine a_op ?_
              refine a_op ?_
              refine s_nil (r_false ?_)
              refine q_next ?_
              refine a_if (fun hc4 => ?_) (fun hc4 => ?_)
              · (try simp only [Bool.and_eq_true, Bool.or_eq_true, Bool.or_eq_false_iff, Bool.not_eq_true', Bool.not_eq_false', dec_t, dec_f, Bool.and_eq_false_imp, beq_iff_eq, beq_eq_false_iff_ne, ne_eq] at hc4)
                have hW : wF is ks (i + 1) = upd (wF is ks i) m [y] := by rw [wF, if_pos (by rw [← hm2e]; exact hc4), show (default : UInt8) = 0 from rfl, he8, hme, hX]
                refine k_region rfl ?_
                clear hme
                rcases (show m = 0 ∨ m = 1 ∨ m = 2 ∨ m = 3 by omega) with rfl | rfl | rfl | rfl
                · skip
                  iterate 5 refine a_op ?_
                  simp only [he8]
                  refine a_op (hs := by (simp (disch := omega) only [push_cast, hm] <;> rfl)) ?_
                  iterate 3 refine a_op ?_
                  refine s_nil (r_false ?_)
                  refine q_block (q_next ?_)
                  refine k_region rfl ?_
                  iterate 3 refine a_op ?_
                  refine s_nil (r_false ?_)
                  refine q_loopF ((i + 1, false)) (a_le ?_) ?_ ?_
                  · refine le_same ?_ ?_ ?_ <;> simp [-List.map_set, -List.map_replicate, -List.reduceReplicate, -List.map_map, -List.map_drop, -List.map_take, num, bol, txt, w8, w16, w32, w64, lst, cls, rowO, boxO, List.take_of_length_le, hC, hW, cF_len, chL_app, Int.add_assoc, upd_00, upd_01, upd_02, upd_03, upd_10, upd_11, upd_12, upd_13, upd_20, upd_21, upd_22, upd_23, upd_30, upd_31, upd_32, upd_33] <;> (try exact hz)
                  · exact ⟨by simp only []; omega, by simp⟩
                  · simp only []; omega
                · skip
                  iterate 5 refine a_op ?_
                  simp only [he8]
                  refine a_op (hs := by (simp (disch := omega) only [push_cast, hm] <;> rfl)) ?_
                  iterate 3 refine a_op ?_
                  refine s_nil (r_false ?_)
                  refine q_block (q_next ?_)
                  refine k_region rfl ?_
                  iterate 3 refine a_op ?_
                  refine s_nil (r_false ?_)
                  refine q_loopF ((i + 1, false)) (a_le ?_) ?_ ?_
                  · refine le_same ?_ ?_ ?_ <;> simp [-List.map_set, -List.map_replicate, -List.reduceReplicate, -List.map_map, -List.map_drop, -List.map_take, num, bol, txt, w8, w16, w32, w64, lst, cls, rowO, boxO, List.take_of_length_le, hC, hW, cF_len, chL_app, Int.add_assoc, upd_00, upd_01, upd_02, upd_03, upd_10, upd_11, upd_12, upd_13, upd_20, upd_21, upd_22, upd_23, upd_30, upd_31, upd_32, upd_33] <;> (try exact hz)
                  · exact ⟨by simp only []; omega, by simp⟩
                  · simp only []; omega
                · skip
                  iterate 5 refine a_op ?_
                  simp only [he8]
                  refine a_op (hs := by (simp (disch := omega) only [push_cast, hm] <;> rfl)) ?_
                  iterate 3 refine a_op ?_
                  refine s_nil (r_false ?_)
                  refine q_block (q_next ?_)
                  refine k_region rfl ?_
                  iterate 3 refine a_op ?_
                  refine s_nil (r_false ?_)
                  refine q_loopF ((i + 1, false)) (a_le ?_) ?_ ?_
                  · refine le_same ?_ ?_ ?_ <;> simp [-List.map_set, -List.map_replicate, -List.reduceReplicate, -List.map_map, -List.map_drop, -List.map_take, num, bol, txt, w8, w16, w32, w64, lst, cls, rowO, boxO, List.take_of_length_le, hC, hW, cF_len, chL_app, Int.add_assoc, upd_00, upd_01, upd_02, upd_03, upd_10, upd_11, upd_12, upd_13, upd_20, upd_21, upd_22, upd_23, upd_30, upd_31, upd_32, upd_33] <;> (try exact hz)
                  · exact ⟨by simp only []; omega, by simp⟩
                  · simp only []; omega
                · skip
                  iterate 5 refine a_op ?_
                  simp only [he8]
                  refine a_op (hs := by (simp (disch := omega) only [push_cast, hm] <;> rfl)) ?_
                  iterate 3 refine a_op ?_
                  refine s_nil (r_false ?_)
                  refine q_block (q_next ?_)
                  refine k_region rfl ?_
                  iterate 3 refine a_op ?_
                  refine s_nil (r_false ?_)
                  refine q_loopF ((i + 1, false)) (a_le ?_) ?_ ?_
                  · refine le_same ?_ ?_ ?_ <;> simp [-List.map_set, -List.map_replicate, -List.reduceReplicate, -List.map_map, -List.map_drop, -List.map_take, num, bol, txt, w8, w16, w32, w64, lst, cls, rowO, boxO, List.take_of_length_le, hC, hW, cF_len, chL_app, Int.add_assoc, upd_00, upd_01, upd_02, upd_03, upd_10, upd_11, upd_12, upd_13, upd_20, upd_21, upd_22, upd_23, upd_30, upd_31, upd_32, upd_33] <;> (try exact hz)
                  · exact ⟨by simp only []; omega, by simp⟩
                  · simp only []; omega
              · (try simp only [Bool.and_eq_true, Bool.or_eq_true, Bool.or_eq_false_iff, Bool.not_eq_true', Bool.not_eq_false', dec_t, dec_f, Bool.and_eq_false_imp, beq_iff_eq, beq_eq_false_iff_ne, ne_eq] at hc4)
                have hW : wF is ks (i + 1) = wF is ks i := by rw [wF, if_neg (by rw [← hm2e, show (default : Bool) = false from rfl, hc4]; simp)]
                refine k_skip ?_
                refine q_block (q_next ?_)
                refine k_region rfl ?_
                iterate 3 refine a_op ?_
                refine s_nil (r_false ?_)
                refine q_loopF ((i + 1, false)) (a_le ?_) ?_ ?_
                · refine le_same ?_ ?_ ?_ <;> simp [-List.map_set, -List.map_replicate, -List.reduceReplicate, -List.map_map, -List.map_drop, -List.map_take, num, bol, txt, w8, w16, w32, w64, lst, cls, rowO, boxO, List.take_of_length_le, hC, hW, cF_len, chL_app, Int.add_assoc, upd_00, upd_01, upd_02, upd_03, upd_10, upd_11, upd_12, upd_13, upd_20, upd_21, upd_22, upd_23, upd_30, upd_31, upd_32, upd_33] <;> (try exact hz)
                · exact ⟨by simp only []; omega, by simp⟩
                · simp only []; omega
            · (try simp only [Bool.and_eq_true, Bool.or_eq_true, Bool.or_eq_false_iff, Bool.not_eq_true', Bool.not_eq_false', dec_t, dec_f, Bool.and_eq_false_imp, beq_iff_eq, beq_eq_false_iff_ne, ne_eq] at hc3)
              obtain rfl : i = is.length := by omega
              refine k_exit ?_
              refine q_seq_exit (q_loopF_exit (q_block_exit (q_next ?_)))
              refine k_seq ?_
              refine k_region rfl ?_
              refine a_op ?_
              refine a_callp [.r 3 1 0, .r 17 8 0] [] [.r 17 8 0] false (looseR Γ (fun _ => SAFE) (cF is is.length) (by rw [cF_len]; omega) (cF_in is _) 0 (5 + is.length) false) ?_
              refine a_op ?_
              refine s_nil (r_false ?_)
              refine q_next ?_
              refine k_seq ?_
              refine k_region rfl ?_
              iterate 3 refine a_op ?_
              refine a_callp [.r 3 1 0, .r 17 8 0] [] [.r 17 8 0] false (fallR Γ (fun _ => SAFE) (cF is is.length) (by rw [cF_len]; omega) (cF_in is _) 0 (5 + is.length) false 0 ks b1) ?_
              simp only [cF_len, fall_eq is ks (by omega) is.length is.length (Nat.le_refl _)]
              refine s_nil (r_false ?_)
              refine q_next ?_
              refine k_seq ?_
              refine k_seq ?_
              refine k_region rfl ?_
              refine a_op ?_
              refine s_nil (r_false ?_)
              refine q_next ?_
              refine k_block ?_
              refine k_loopF (fun sl L (j : Nat) => ⟨setAll (setBad sl [1, 4, 7, 9, 10, 13, 14, 15, 16, 17, 18, 19, 20, 21, 22, 23, 24, 25, 26, 27, 28, 29, 30, 31, 32, 33, 34, 35, 36, 37, 38, 39, 40, 41, 42, 43, 44, 45, 46, 47, 48, 49, 50, 51, 52, 53, 54, 55, 56, 57, 58, 59, 60, 61, 62, 63, 64, 65, 66, 67, 68, 69, 70, 71, 72, 73, 74, 75, 76, 77, 78, 79, 80, 81, 82, 83, 84, 85, 86, 87, 88, 89, 90, 91, 92, 93, 94, 95, 96, 97, 98, 99, 100, 101, 102, 103, 104, 105, 106, 107]) [(12, .t (num j))], Go.Ot.look (L)⟩) (fun j => j ≤ 4) (fun j => 4 - j) (0) (a_le ?_) ?_ ?_
              · refine le_same ?_ ?_ ?_ <;> simp [-List.map_set, -List.map_replicate, -List.reduceReplicate, -List.map_map, -List.map_drop, -List.map_take, num, bol, txt, w8, w16, w32, w64, lst, cls, rowO, boxO, List.take_of_length_le]
              · (first | omega | simp)
              · intro j hj
                rcases (show j = 0 ∨ j = 1 ∨ j = 2 ∨ j = 3 ∨ j = 4 by omega) with rfl | rfl | rfl | rfl | rfl
                · refine a_st ?_
                  refine k_seq ?_
                  refine k_seq ?_
                  refine k_region rfl ?_
                  refine a_op ?_
                  refine a_op ?_
                  refine s_nil (r_false ?_)
                  refine q_next ?_
                  refine a_true ?_
                  refine k_skip ?_
                  refine q_next ?_
                  refine k_seq ?_
                  refine k_block ?_
                  refine k_seq ?_
                  refine k_region rfl ?_
                  refine a_op ?_
                  refine a_op ?_
                  refine a_callp [.r 3 1 0] [] [] false (rd_okN Γ (wF is ks is.length) 0 0 0 (by omega)) ?_
                  iterate 5 refine a_op ?_
                  refine s_nil (r_false ?_)
                  refine q_next ?_
                  refine k_seq ?_
                  refine k_region rfl ?_
                  iterate 7 refine a_op ?_
                  refine a_go ?_
                  refine a_callgo [] false (num_good Γ 0) ?_
                  refine a_go ?_
                  refine a_op ?_
                  refine s_nil (r_false ?_)
                  refine q_next ?_
                  refine a_false ?_
                  refine k_skip ?_
                  refine q_block (q_next ?_)
                  refine k_region rfl ?_
                  iterate 3 refine a_op ?_
                  refine s_nil (r_false ?_)
                  refine q_loopF (1) (a_le ?_) ?_ ?_
                  · refine le_same ?_ ?_ ?_ <;> simp [-List.map_set, -List.map_replicate, -List.reduceReplicate, -List.map_map, -List.map_drop, -List.map_take, num, bol, txt, w8, w16, w32, w64, lst, cls, rowO, boxO, List.take_of_length_le]
                  · (first | omega | (simp_all <;> omega))
                  · (first | omega | (simp only []; omega))
                · refine a_st ?_
                  refine k_seq ?_
                  refine k_seq ?_
                  refine k_region rfl ?_
                  refine a_op ?_
                  refine a_op ?_
                  refine s_nil (r_false ?_)
                  refine q_next ?_
                  refine a_true ?_
                  refine k_skip ?_
                  refine q_next ?_
                  refine k_seq ?_
                  refine k_block ?_
                  refine k_seq ?_
                  refine k_region rfl ?_
                  refine a_op ?_
                  refine a_op ?_
                  refine a_callp [.r 3 1 0] [] [] false (rd_okN Γ (wF is ks is.length) 0 0 1 (by omega)) ?_
                  iterate 5 refine a_op ?_
                  refine s_nil (r_false ?_)
                  refine q_next ?_
                  refine k_seq ?_
                  refine k_region rfl ?_
                  iterate 7 refine a_op ?_
                  refine a_go ?_
                  refine a_callgo [] false (num_good Γ 0) ?_
                  refine a_go ?_
                  refine a_op ?_
                  refine s_nil (r_false ?_)
                  refine q_next ?_
                  refine a_false ?_
                  refine k_skip ?_
                  refine q_block (q_next ?_)
                  refine k_region rfl ?_
                  iterate 3 refine a_op ?_
                  refine s_nil (r_false ?_)
                  refine q_loopF (2) (a_le ?_) ?_ ?_
                  · refine le_same ?_ ?_ ?_ <;> simp [-List.map_set, -List.map_replicate, -List.reduceReplicate, -List.map_map, -List.map_drop, -List.map_take, num, bol, txt, w8, w16, w32, w64, lst, cls, rowO, boxO, List.take_of_length_le]
                  · (first | omega | (simp_all <;> omega))
                  · (first | omega | (simp only []; omega))
                · refine a_st ?_
                  refine k_seq ?_
                  refine k_seq ?_
                  refine k_region rfl ?_
                  refine a_op ?_
                  refine a_op ?_
                  refine s_nil (r_false ?_)
                  refine q_next ?_
                  refine a_true ?_
                  refine k_skip ?_
                  refine q_next ?_
                  refine k_seq ?_
                  refine k_block ?_
                  refine k_seq ?_
                  refine k_region rfl ?_
                  refine a_op ?_
                  refine a_op ?_
                  refine a_callp [.r 3 1 0] [] [] false (rd_okN Γ (wF is ks is.length) 0 0 2 (by omega)) ?_
                  iterate 5 refine a_op ?_
                  refine s_nil (r_false ?_)
                  refine q_next ?_
                  refine k_seq ?_
                  refine k_region rfl ?_
                  iterate 7 refine a_op ?_
                  refine a_go ?_
                  refine a_callgo [] false (num_good Γ 0) ?_
                  refine a_go ?_
                  refine a_op ?_
                  refine s_nil (r_false ?_)
                  refine q_next ?_
                  refine a_false ?_
                  refine k_skip ?_
                  refine q_block (q_next ?_)
                  refine k_region rfl ?_
                  iterate 3 refine a_op ?_
                  refine s_nil (r_false ?_)
                  refine q_loopF (3) (a_le ?_) ?_ ?_
                  · refine le_same ?_ ?_ ?_ <;> simp [-List.map_set, -List.map_replicate, -List.reduceReplicate, -List.map_map, -List.map_drop, -List.map_take, num, bol, txt, w8, w16, w32, w64, lst, cls, rowO, boxO, List.take_of_length_le]
                  · (first | omega | (simp_all <;> omega))
                  · (first | omega | (simp only []; omega))
                · refine a_st ?_
                  refine k_seq ?_
                  refine k_seq ?_
                  refine k_region rfl ?_
                  refine a_op ?_
                  refine a_op ?_
                  refine s_nil (r_false ?_)
                  refine q_next ?_
                  refine a_true ?_
                  refine k_skip ?_
                  refine q_next ?_
                  refine k_seq ?_
                  refine k_block ?_
                  refine k_seq ?_
                  refine k_region rfl ?_
                  refine a_op ?_
                  refine a_op ?_
                  refine a_callp [.r 3 1 0] [] [] false (rd_okN Γ (wF is ks is.length) 0 0 3 (by omega)) ?_
                  iterate 5 refine a_op ?_
                  refine s_nil (r_false ?_)
                  refine q_next ?_
                  refine k_seq ?_
                  refine k_region rfl ?_
                  iterate 7 refine a_op ?_
                  refine a_go ?_
                  refine a_callgo [] false (num_good Γ 0) ?_
                  refine a_go ?_
                  refine a_op ?_
                  refine s_nil (r_false ?_)
                  refine q_next ?_
                  refine a_false ?_
                  refine k_skip ?_
                  refine q_block (q_next ?_)
                  refine k_region rfl ?_
                  iterate 3 refine a_op ?_
                  refine s_nil (r_false ?_)
                  refine q_loopF (4) (a_le ?_) ?_ ?_
                  · refine le_same ?_ ?_ ?_ <;> simp [-List.map_set, -List.map_replicate, -List.reduceReplicate, -List.map_map, -List.map_drop, -List.map_take, num, bol, txt, w8, w16, w32, w64, lst, cls, rowO, boxO, List.take_of_length_le]
                  · (first | omega | (simp_all <;> omega))
                  · (first | omega | (simp only []; omega))
                · refine a_st ?_
                  refine k_seq ?_
                  refine k_seq ?_
                  refine k_region rfl ?_
                  refine a_op ?_
                  refine a_op ?_
                  refine s_nil (r_false ?_)
                  refine q_next ?_
                  refine a_false ?_
                  refine k_exit ?_
                  refine q_seq_exit (q_loopF_exit (q_block_exit (q_next ?_)))
                  refine k_seq ?_
                  refine k_region rfl ?_
                  refine a_op ?_
                  refine a_call [] false (num_good Γ 0) ?_
                  refine a_op ?_
                  refine a_op ?_
                  refine a_go ?_
                  refine a_go ?_
                  refine a_go ?_
                  refine a_go ?_
                  refine a_op ?_
                  refine a_op ?_
                  refine a_go ?_
                  refine a_callpgo [.r 3 1 0] [] [] false (looseN Γ (wF is ks is.length) 0 0 false) ?_
                  refine a_go ?_
                  refine a_op ?_
                  refine a_op ?_
                  refine a_callgo [] false (awake_good Γ hE) ?_
                  refine a_op ?_
                  refine a_op ?_
                  refine s_nil (r_false ?_)
                  refine q_next ?_
                  refine k_ret ?_
                  refine ⟨.inr rfl, a_ret [] (by rw [results4]) ?_ ?_ ?_⟩ <;> simp [-List.map_set, -List.map_replicate, -List.reduceReplicate, -List.map_map, -List.map_drop, -List.map_take, num, bol, txt, w8, w16, w32, w64, lst, cls, rowO, boxO, List.take_of_length_le]
          · refine a_st ?_
            refine k_seq ?_
            refine k_seq ?_
            refine k_region rfl ?_
            iterate 4 refine a_op ?_
            refine s_nil (r_false ?_)
            refine q_next ?_
            refine a_if (fun hc3 => ?_) (fun hc3 => ?_)
            · (try simp only [Bool.and_eq_true, Bool.or_eq_true, Bool.or_eq_false_iff, Bool.not_eq_true', Bool.not_eq_false', dec_t, dec_f, Bool.and_eq_false_imp, beq_iff_eq, beq_eq_false_iff_ne, ne_eq] at hc3)
              refine k_skip ?_
              refine q_next ?_
              refine k_seq ?_
              refine k_block ?_
              refine k_seq ?_
              refine k_region rfl ?_
              iterate 3 refine a_op ?_
              obtain ⟨y, hy⟩ : ∃ y : UInt8, UInt8.ofInt (97 + (i : Int)) = y := ⟨_, rfl⟩
              have hX : xF i = [y] := by rw [xF, hy]
              rw [x97 i (by omega), hy]
              refine a_op ?_
              first | refine a_text ?_ | refine a_texts ?_
              refine a_op ?_
              refine s_nil (r_false ?_)
              refine q_next ?_
              refine k_seq ?_
              refine k_region rfl ?_
              obtain ⟨e8, he8⟩ : ∃ e, is.getD i 0 = e := ⟨_, rfl⟩
              have hx8 := e8.toNat_lt
              obtain ⟨m, hm, hm4, hme⟩ : ∃ m : Nat, (e8.toNat : Int) % 4 = (m : Int) ∧ m < 4 ∧ e8.toNat % 4 = m := ⟨e8.toNat % 4, by omega, by omega, rfl⟩
              obtain ⟨m2, hm2, hm2l, hm2e⟩ := mod_nat i ks.length (by omega)
              have hC : cF is (i + 1) = [(m, [y])] := by rw [cF, show (default : UInt8) = 0 from rfl, he8, hme, hX, hz]; rfl
              iterate 5 refine a_op ?_
              simp only [he8]
              refine a_op ?_
              refine a_op (hs := by (simp (disch := omega) only [push_cast, hm] <;> rfl)) ?_
              refine a_op ?_
              refine a_callp [.r 3 1 0] [] [] false (wr_okN Γ (fun _ => SAFE) 0 (5 + i) m [y] hm4 (by omega) (by omega)) ?_
              refine s_nil (r_false ?_)
              refine q_next ?_
              refine k_seq ?_
              refine k_region rfl ?_
              iterate 4 refine a_op ?_
              refine a_op (hs := by (simp (disch := omega) only [push_cast, hm2] <;> rfl)) ?_
              refine a_op ?_
              refine a_op ?_
              refine s_nil (r_false ?_)
              refine q_next ?_
              refine a_if (fun hc4 => ?_) (fun hc4 => ?_)
              · (try simp only [Bool.and_eq_true, Bool.or_eq_true, Bool.or_eq_false_iff, Bool.not_eq_true', Bool.not_eq_false', dec_t, dec_f, Bool.and_eq_false_imp, beq_iff_eq, beq_eq_false_iff_ne, ne_eq] at hc4)
                have hW : wF is ks (i + 1) = upd (wF is ks i) m [y] := by rw [wF, if_pos (by rw [← hm2e]; exact hc4), show (default : UInt8) = 0 from rfl, he8, hme, hX]
                refine k_region rfl ?_
                clear hme
                rcases (show m = 0 ∨ m = 1 ∨ m = 2 ∨ m = 3 by omega) with rfl | rfl | rfl | rfl
                · skip
                  iterate 5 refine a_op ?_
                  simp only [he8]
                  refine a_op (hs := by (simp (disch := omega) only [push_cast, hm] <;> rfl)) ?_
                  iterate 3 refine a_op ?_
                  refine s_nil (r_false ?_)
                  refine q_block (q_next ?_)
                  refine k_region rfl ?_
                  iterate 3 refine a_op ?_
                  refine s_nil (r_false ?_)
                  refine q_loopF ((i + 1, false)) (a_le ?_) ?_ ?_
                  · refine le_same ?_ ?_ ?_ <;> simp [-List.map_set, -List.map_replicate, -List.reduceReplicate, -List.map_map, -List.map_drop, -List.map_take, num, bol, txt, w8, w16, w32, w64, lst, cls, rowO, boxO, List.take_of_length_le, hC, hW, cF_len, chL_app, Int.add_assoc, upd_00, upd_01, upd_02, upd_03, upd_10, upd_11, upd_12, upd_13, upd_20, upd_21, upd_22, upd_23, upd_30, upd_31, upd_32, upd_33] <;> (try exact hz)
                  · exact ⟨by simp only []; omega, by simp⟩
                  · simp only []; omega
                · skip
                  iterate 5 refine a_op ?_
                  simp only [he8]
                  refine a_op (hs := by (simp (disch := omega) only [push_cast, hm] <;> rfl)) ?_
                  iterate 3 refine a_op ?_
                  refine s_nil (r_false ?_)
                  refine q_block (q_next ?_)
                  refine k_region rfl ?_
                  iterate 3 refine a_op ?_
                  refine s_nil (r_false ?_)
                  refine q_loopF ((i + 1, false)) (a_le ?_) ?_ ?_
                  · refine le_same ?_ ?_ ?_ <;> simp [-List.map_set, -List.map_replicate, -List.reduceReplicate, -List.map_map, -List.map_drop, -List.map_take, num, bol, txt, w8, w16, w32, w64, lst, cls, rowO, boxO, List.take_of_length_le, hC, hW, cF_len, chL_app, Int.add_assoc, upd_00, upd_01, upd_02, upd_03, upd_10, upd_11, upd_12, upd_13, upd_20, upd_21, upd_22, upd_23, upd_30, upd_31, upd_32, upd_33] <;> (try exact hz)
                  · exact ⟨by simp only []; omega, by simp⟩
                  · simp only []; omega
                · skip
                  iterate 5 refine a_op ?_
                  simp only [he8]
                  refine a_op (hs := by (simp (disch := omega) only [push_cast, hm] <;> rfl)) ?_
                  iterate 3 refine a_op ?_
                  refine s_nil (r_false ?_)
                  refine q_block (q_next ?_)
                  refine k_region rfl ?_
                  iterate 3 refine a_op ?_
                  refine s_nil (r_false ?_)
                  refine q_loopF ((i + 1, false)) (a_le ?_) ?_ ?_
                  · refine le_same ?_ ?_ ?_ <;> simp [-List.map_set, -List.map_replicate, -List.reduceReplicate, -List.map_map, -List.map_drop, -List.map_take, num, bol, txt, w8, w16, w32, w64, lst, cls, rowO, boxO, List.take_of_length_le, hC, hW, cF_len, chL_app, Int.add_assoc, upd_00, upd_01, upd_02, upd_03, upd_10, upd_11, upd_12, upd_13, upd_20, upd_21, upd_22, upd_23, upd_30, upd_31, upd_32, upd_33] <;> (try exact hz)
                  · exact ⟨by simp only []; omega, by simp⟩
                  · simp only []; omega
                · skip
                  iterate 5 refine a_op ?_
                  simp only [he8]
                  refine a_op (hs := by (simp (disch := omega) only [push_cast, hm] <;> rfl)) ?_
                  iterate 3 refine a_op ?_
                  refine s_nil (r_false ?_)
                  refine q_block (q_next ?_)
                  refine k_region rfl ?_
                  iterate 3 refine a_op ?_
                  refine s_nil (r_false ?_)
                  refine q_loopF ((i + 1, false)) (a_le ?_) ?_ ?_
                  · refine le_same ?_ ?_ ?_ <;> simp [-List.map_set, -List.map_replicate, -List.reduceReplicate, -List.map_map, -List.map_drop, -List.map_take, num, bol, txt, w8, w16, w32, w64, lst, cls, rowO, boxO, List.take_of_length_le, hC, hW, cF_len, chL_app, Int.add_assoc, upd_00, upd_01, upd_02, upd_03, upd_10, upd_11, upd_12, upd_13, upd_20, upd_21, upd_22, upd_23, upd_30, upd_31, upd_32, upd_33] <;> (try exact hz)
                  · exact ⟨by simp only []; omega, by simp⟩
                  · simp only []; omega
              · (try simp only [Bool.and_eq_true, Bool.or_eq_true, Bool.or_eq_false_iff, Bool.not_eq_true', Bool.not_eq_false', dec_t, dec_f, Bool.and_eq_false_imp, beq_iff_eq, beq_eq_false_iff_ne, ne_eq] at hc4)
                have hW : wF is ks (i + 1) = wF is ks i := by rw [wF, if_neg (by rw [← hm2e, show (default : Bool) = false from rfl, hc4]; simp)]
                refine k_skip ?_
                refine q_block (q_next ?_)
                refine k_region rfl ?_
                iterate 3 refine a_op ?_
                refine s_nil (r_false ?_)
                refine q_loopF ((i + 1, false)) (a_le ?_) ?_ ?_
                · refine le_same ?_ ?_ ?_ <;> simp [-List.map_set, -List.map_replicate, -List.reduceReplicate, -List.map_map, -List.map_drop, -List.map_take, num, bol, txt, w8, w16, w32, w64, lst, cls, rowO, boxO, List.take_of_length_le, hC, hW, cF_len, chL_app, Int.add_assoc, upd_00, upd_01, upd_02, upd_03, upd_10, upd_11, upd_12, upd_13, upd_20, upd_21, upd_22, upd_23, upd_30, upd_31, upd_32, upd_33] <;> (try exact hz)
                · exact ⟨by simp only []; omega, by simp⟩
                · simp only []; omega
            · (try simp only [Bool.and_eq_true, Bool.or_eq_true, Bool.or_eq_false_iff, Bool.not_eq_true', Bool.not_eq_false', dec_t, dec_f, Bool.and_eq_false_imp, beq_iff_eq, beq_eq_false_iff_ne, ne_eq] at hc3)
              obtain rfl : i = is.length := by omega
              refine k_exit ?_
              refine q_seq_exit (q_loopF_exit (q_block_exit (q_next ?_)))
              refine k_seq ?_
              refine k_region rfl ?_
              refine a_op ?_
              refine a_callp [.r 3 1 0] [] [] false (looseN Γ (fun _ => SAFE) 0 (5 + is.length) false) ?_
              refine a_op ?_
              refine s_nil (r_false ?_)
              refine q_next ?_
              refine k_seq ?_
              refine k_region rfl ?_
              iterate 3 refine a_op ?_
              refine a_callp [.r 3 1 0] [] [] false (fallN Γ (fun _ => SAFE) 0 (5 + is.length) false 0 ks b1) ?_
              simp only [show wF is ks is.length = fun _ => SAFE from by rw [hz]; rfl]
              refine s_nil (r_false ?_)
              refine q_next ?_
              refine k_seq ?_
              refine k_seq ?_
              refine k_region rfl ?_
              refine a_op ?_
              refine s_nil (r_false ?_)
              refine q_next ?_
              refine k_block ?_
              refine k_loopF (fun sl L (j : Nat) => ⟨setAll (setBad sl [1, 4, 7, 9, 10, 13, 14, 15, 16, 17, 18, 19, 20, 21, 22, 23, 24, 25, 26, 27, 28, 29, 30, 31, 32, 33, 34, 35, 36, 37, 38, 39, 40, 41, 42, 43, 44, 45, 46, 47, 48, 49, 50, 51, 52, 53, 54, 55, 56, 57, 58, 59, 60, 61, 62, 63, 64, 65, 66, 67, 68, 69, 70, 71, 72, 73, 74, 75, 76, 77, 78, 79, 80, 81, 82, 83, 84, 85, 86, 87, 88, 89, 90, 91, 92, 93, 94, 95, 96, 97, 98, 99, 100, 101, 102, 103, 104, 105, 106, 107]) [(12, .t (num j))], Go.Ot.look (L)⟩) (fun j => j ≤ 4) (fun j => 4 - j) (0) (a_le ?_) ?_ ?_
              · refine le_same ?_ ?_ ?_ <;> simp [-List.map_set, -List.map_replicate, -List.reduceReplicate, -List.map_map, -List.map_drop, -List.map_take, num, bol, txt, w8, w16, w32, w64, lst, cls, rowO, boxO, List.take_of_length_le]
              · (first | omega | simp)
              · intro j hj
                rcases (show j = 0 ∨ j = 1 ∨ j = 2 ∨ j = 3 ∨ j = 4 by omega) with rfl | rfl | rfl | rfl | rfl
                · refine a_st ?_
                  refine k_seq ?_
                  refine k_seq ?_
                  refine k_region rfl ?_
                  refine a_op ?_
                  refine a_op ?_
                  refine s_nil (r_false ?_)
                  refine q_next ?_
                  refine a_true ?_
                  refine k_skip ?_
                  refine q_next ?_
                  refine k_seq ?_
                  refine k_block ?_
                  refine k_seq ?_
                  refine k_region rfl ?_
                  refine a_op ?_
                  refine a_op ?_
                  refine a_callp [.r 3 1 0] [] [] false (rd_okN Γ (fun _ => SAFE) 0 0 0 (by omega)) ?_
                  iterate 5 refine a_op ?_
                  refine s_nil (r_false ?_)
                  refine q_next ?_
                  refine k_seq ?_
                  refine k_region rfl ?_
                  iterate 7 refine a_op ?_
                  refine a_go ?_
                  refine a_callgo [] false (num_good Γ 0) ?_
                  refine a_go ?_
                  refine a_op ?_
                  refine s_nil (r_false ?_)
                  refine q_next ?_
                  refine a_false ?_
                  refine k_skip ?_
                  refine q_block (q_next ?_)
                  refine k_region rfl ?_
                  iterate 3 refine a_op ?_
                  refine s_nil (r_false ?_)
                  refine q_loopF (1) (a_le ?_) ?_ ?_
                  · refine le_same ?_ ?_ ?_ <;> simp [-List.map_set, -List.map_replicate, -List.reduceReplicate, -List.map_map, -List.map_drop, -List.map_take, num, bol, txt, w8, w16, w32, w64, lst, cls, rowO, boxO, List.take_of_length_le]
                  · (first | omega | (simp_all <;> omega))
                  · (first | omega | (simp only []; omega))
                · refine a_st ?_
                  refine k_seq ?_
                  refine k_seq ?_
                  refine k_region rfl ?_
                  refine a_op ?_
                  refine a_op ?_
                  refine s_nil (r_false ?_)
                  refine q_next ?_
                  refine a_true ?_
                  refine k_skip ?_
                  refine q_next ?_
                  refine k_seq ?_
                  refine k_block ?_
                  refine k_seq ?_
                  refine k_region rfl ?_
                  refine a_op ?_
                  refine a_op ?_
                  refine a_callp [.r 3 1 0] [] [] false (rd_okN Γ (fun _ => SAFE) 0 0 1 (by omega)) ?_
                  iterate 5 refine a_op ?_
                  refine s_nil (r_false ?_)
                  refine q_next ?_
                  refine k_seq ?_
                  refine k_region rfl ?_
                  iterate 7 refine a_op ?_
                  refine a_go ?_
                  refine a_callgo [] false (num_good Γ 0) ?_
                  refine a_go ?_
                  refine a_op ?_
                  refine s_nil (r_false ?_)
                  refine q_next ?_
                  refine a_false ?_
                  refine k_skip ?_
                  refine q_block (q_next ?_)
                  refine k_region rfl ?_
                  iterate 3 refine a_op ?_
                  refine s_nil (r_false ?_)
                  refine q_loopF (2) (a_le ?_) ?_ ?_
                  · refine le_same ?_ ?_ ?_ <;> simp [-List.map_set, -List.map_replicate, -List.reduceReplicate, -List.map_map, -List.map_drop, -List.map_take, num, bol, txt, w8, w16, w32, w64, lst, cls, rowO, boxO, List.take_of_length_le]
                  · (first | omega | (simp_all <;> omega))
                  · (first | omega | (simp only []; omega))
                · refine a_st ?_
                  refine k_seq ?_
                  refine k_seq ?_
                  refine k_region rfl ?_
                  refine a_op ?_
                  refine a_op ?_
                  refine s_nil (r_false ?_)
                  refine q_next ?_
                  refine a_true ?_
                  refine k_skip ?_
                  refine q_next ?_
                  refine k_seq ?_
                  refine k_block ?_
                  refine k_seq ?_
                  refine k_region rfl ?_
                  refine a_op ?_
                  refine a_op ?_
                  refine a_callp [.r 3 1 0] [] [] false (rd_okN Γ (fun _ => SAFE) 0 0 2 (by omega)) ?_
                  iterate 5 refine a_op ?_
                  refine s_nil (r_false ?_)
                  refine q_next ?_
                  refine k_seq ?_
                  refine k_region rfl ?_
                  iterate 7 refine a_op ?_
                  refine a_go ?_
                  refine a_callgo [] false (num_good Γ 0) ?_
                  refine a_go ?_
                  refine a_op ?_
                  refine s_nil (r_false ?_)
                  refine q_next ?_
                  refine a_false ?_
                  refine k_skip ?_
                  refine q_block (q_next ?_)
                  refine k_region rfl ?_
                  iterate 3 refine a_op ?_
                  refine s_nil (r_false ?_)
                  refine q_loopF (3) (a_le ?_) ?_ ?_
                  · refine le_same ?_ ?_ ?_ <;> simp [-List.map_set, -List.map_replicate, -List.reduceReplicate, -List.map_map, -List.map_drop, -List.map_take, num, bol, txt, w8, w16, w32, w64, lst, cls, rowO, boxO, List.take_of_length_le]
                  · (first | omega | (simp_all <;> omega))
                  · (first | omega | (simp only []; omega))
                · refine a_st ?_
                  refine k_seq ?_
                  refine k_seq ?_
                  refine k_region rfl ?_
                  refine a_op ?_
                  refine a_op ?_
                  refine s_nil (r_false ?_)
                  refine q_next ?_
                  refine a_true ?_
                  refine k_skip ?_
                  refine q_next ?_
                  refine k_seq ?_
                  refine k_block ?_
                  refine k_seq ?_
                  refine k_region rfl ?_
                  refine a_op ?_
                  refine a_op ?_
                  refine a_callp [.r 3 1 0] [] [] false (rd_okN Γ (fun _ => SAFE) 0 0 3 (by omega)) ?_
                  iterate 5 refine a_op ?_
                  refine s_nil (r_false ?_)
                  refine q_next ?_
                  refine k_seq ?_
                  refine k_region rfl ?_
                  iterate 7 refine a_op ?_
                  refine a_go ?_
                  refine a_callgo [] false (num_good Γ 0) ?_
                  refine a_go ?_
                  refine a_op ?_
                  refine s_nil (r_false ?_)
                  refine q_next ?_
                  refine a_false ?_
                  refine k_skip ?_
                  refine q_block (q_next ?_)
                  refine k_region rfl ?_
                  iterate 3 refine a_op ?_
                  refine s_nil (r_false ?_)
                  refine q_loopF (4) (a_le ?_) ?_ ?_
                  · refine le_same ?_ ?_ ?_ <;> simp [-List.map_set, -List.map_replicate, -List.reduceReplicate, -List.map_map, -List.map_drop, -List.map_take, num, bol, txt, w8, w16, w32, w64, lst, cls, rowO, boxO, List.take_of_length_le]
                  · (first | omega | (simp_all <;> omega))
                  · (first | omega | (simp only []; omega))
                · refine a_st ?_
                  refine k_seq ?_
                  refine k_seq ?_
                  refine k_region rfl ?_
                  refine a_op ?_
                  refine a_op ?_
                  refine s_nil (r_false ?_)
                  refine q_next ?_
                  refine a_false ?_
                  refine k_exit ?_
                  refine q_seq_exit (q_loopF_exit (q_block_exit (q_next ?_)))
                  refine k_seq ?_
                  refine k_region rfl ?_
                  refine a_op ?_
                  refine a_call [] false (num_good Γ 0) ?_
                  refine a_op ?_
                  refine a_op ?_
                  refine a_go ?_
                  refine a_go ?_
                  refine a_go ?_
                  refine a_go ?_
                  refine a_op ?_
                  refine a_op ?_
                  refine a_go ?_
                  refine a_callpgo [.r 3 1 0] [] [] false (looseN Γ (fun _ => SAFE) 0 0 false) ?_
                  refine a_go ?_
                  refine a_op ?_
                  refine a_op ?_
                  refine a_callgo [] false (awake_good Γ hE) ?_
                  refine a_op ?_
                  refine a_op ?_
                  refine s_nil (r_false ?_)
                  refine q_next ?_
                  refine k_ret ?_
                  refine ⟨.inr rfl, a_ret [] (by rw [results4]) ?_ ?_ ?_⟩ <;> simp [-List.map_set, -List.map_replicate, -List.reduceReplicate, -List.map_map, -List.map_drop, -List.map_take, num, bol, txt, w8, w16, w32, w64, lst, cls, rowO, boxO, List.take_of_length_le]

end Go.Proofs.Tryd
