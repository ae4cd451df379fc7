/- Contracts of this program's functions. -/
import Derived.Test.YtknmmpgpddhliaaDoorSV9
import Derived.Test.YtknmmpgpddhliaaDoorSV9Q
set_option maxHeartbeats 4000000
set_option maxRecDepth 100000
set_option linter.unusedVariables false
set_option linter.unusedSimpArgs false
namespace Go.Proofs.Tryd
open Go Go.Ot Ce
attribute [local irreducible] wpK wpS seqK blockK loopF regK meetK OpSpec Le rdS lpW rdW got mayS mayW putS putW nb u64 PutW nowF sideF opn enc Kp
theorem torn_good (Γ : Gl) (hE : EG Γ) (a : List UInt8) (ks : List Bool) (ha : a.length ≤ 9223372036854775807) (hks : ks.length ≤ 9223372036854775807) : Go.Ot.Good Γ prog 7 [.t (lst w8 a), .t (lst bol ks)] [] (.t (bol true)) [] [] := by
  refine a_body F.mix func7 (by rfl) ntmps7 ?_
  refine k_seq ?_
  refine k_region rfl ?_
  refine a_op ?_
  refine s_nil (r_false ?_)
  refine q_next ?_
  refine k_seq ?_
  refine k_seq ?_
  refine k_region rfl ?_
  have h3 : 20 < a.length ∨ (a.length ≤ 20 ∧ 30 < ks.length) ∨ (a.length ≤ 20 ∧ ks.length ≤ 30) := by omega
  rcases h3 with hx | ⟨hx, hy⟩ | ⟨hx, hy⟩
  · skip
    iterate 4 refine a_op ?_
    refine a_no ?_
    refine a_no ?_
    refine a_no ?_
    refine a_op ?_
    refine s_nil (r_false ?_)
    refine q_next ?_
    refine a_true ?_
    refine k_seq ?_
    refine k_region rfl ?_
    refine a_call [] false (awake_good Γ hE) ?_
    refine a_op ?_
    refine s_nil (r_false ?_)
    refine q_next ?_
    refine k_ret ?_
    refine q_seq_ret ?_
    refine ⟨.inr rfl, a_ret [] (by rw [results7]) ?_ ?_ ?_⟩ <;> simp [-List.map_set, -List.map_replicate, -List.reduceReplicate, -List.map_map, -List.map_drop, -List.map_take, num, bol, txt, w8, w16, w32, w64, lst, cls, rowO, boxO, List.take_of_length_le, Wr.cellsL_len, wA, Wr.k_mk, Wr.n_mk, Wr.s_mk, Wr.l_mk, Wr.cellsL, Wr.z_eq]
  · skip
    iterate 4 refine a_op ?_
    refine a_go ?_
    refine a_go ?_
    refine a_go ?_
    refine a_op ?_
    refine s_nil (r_false ?_)
    refine q_next ?_
    refine a_true ?_
    refine k_seq ?_
    refine k_region rfl ?_
    refine a_call [] false (awake_good Γ hE) ?_
    refine a_op ?_
    refine s_nil (r_false ?_)
    refine q_next ?_
    refine k_ret ?_
    refine q_seq_ret ?_
    refine ⟨.inr rfl, a_ret [] (by rw [results7]) ?_ ?_ ?_⟩ <;> simp [-List.map_set, -List.map_replicate, -List.reduceReplicate, -List.map_map, -List.map_drop, -List.map_take, num, bol, txt, w8, w16, w32, w64, lst, cls, rowO, boxO, List.take_of_length_le, Wr.cellsL_len, wA, Wr.k_mk, Wr.n_mk, Wr.s_mk, Wr.l_mk, Wr.cellsL, Wr.z_eq]
  · skip
    iterate 4 refine a_op ?_
    refine a_go ?_
    refine a_go ?_
    refine a_go ?_
    refine a_op ?_
    refine s_nil (r_false ?_)
    refine q_next ?_
    refine a_false ?_
    refine k_skip ?_
    refine q_next ?_
    refine k_seq ?_
    refine k_region rfl ?_
    refine a_op ?_
    refine a_call [] false (Ce.New_good Γ 0 (.v (.slice none 0 0))) ?_
    refine a_op ?_
    refine s_nil (r_false ?_)
    refine q_next ?_
    refine k_seq ?_
    refine k_region rfl ?_
    refine a_op ?_
    refine a_callp [.r 3 1 0] [] [] false (Open_new Γ hE 0 0) ?_
    iterate 5 refine a_op ?_
    refine s_nil (r_false ?_)
    refine q_next ?_
    refine k_seq ?_
    refine k_seq ?_
    refine k_region rfl ?_
    refine a_op ?_
    refine a_call [] false (num_good Γ 0) ?_
    refine a_op ?_
    refine a_op ?_
    refine a_go ?_
    refine a_bygo (spec_ptrNil false rfl rfl (by kernel_rfl)) ?_
    refine a_op ?_
    refine a_op ?_
    refine a_go ?_
    refine a_callpgo [.r 4 1 0, .r 3 1 0] [] [] false (keep_ok Γ (fun _ => []) 0 0 0 (by omega) 1 (by decide) [102, 105, 114, 115, 116] (by decide) [] (by omega) (by omega) (by omega)) ?_
    refine a_callgo [] false (num_good Γ 0) ?_
    refine a_go ?_
    refine a_op ?_
    refine s_nil (r_false ?_)
    refine q_next ?_
    refine a_false ?_
    refine k_skip ?_
    refine q_next ?_
    refine k_seq ?_
    refine k_region rfl ?_
    refine a_op ?_
    refine s_nil (r_false ?_)
    refine q_next ?_
    refine k_seq ?_
    refine k_seq ?_
    refine k_region rfl ?_
    refine a_op ?_
    refine s_nil (r_false ?_)
    refine q_next ?_
    refine k_block ?_
    refine k_loopF (fun sl L (q : Nat × Nat × (Nat → List UInt8) × List UInt8 × Int) => ⟨setAll (setBad sl [4, 7, 10, 11, 12, 13, 14, 15, 16, 17, 18, 19, 20, 21, 22, 23, 24, 25, 26, 27, 28, 29, 30, 31, 32, 33, 34, 35, 36, 37, 38, 39, 40, 41, 42, 43, 44, 45, 46, 47, 48, 49, 50, 51, 52, 53, 54, 55, 56, 57, 58, 59, 60, 61, 62, 63, 64, 65, 66, 67, 68, 69, 70, 71, 72, 73, 74, 75, 76, 77, 78, 79, 80, 81, 82, 83, 84, 85, 86, 87, 88, 89, 90, 91, 92, 93, 94, 95, 96, 97, 98, 99, 100, 101, 102, 103, 104, 105, 106, 107, 108, 109, 110, 111, 112, 113, 114, 115, 116, 117, 118, 119, 120, 121, 122, 123, 124, 125]) [(9, .t (num q.1)), (8, .t (txt q.2.2.2.1)), (6, .ptr (.n 9) 0)], Go.Ot.look (putL (.n 9) (boxO 49 [.ptr (.r 3 1 0) 0, .t (num ((q.2.1 : Int))), .t (txt (q.2.2.2.1)), .t (bol (false))]) (putL (.r 3 1 0) (boxO 47 [.t (txt (q.2.2.1 0)), .t (txt (q.2.2.1 1)), .t (txt (q.2.2.1 2)), .t (txt (q.2.2.1 3)), .t (.v (.slice none 0 0)), .t (num (0)), .t (.v (.slice none 0 0)), .t (num (q.2.2.2.2)), .t (bol (false))]) []))⟩) (fun q => q.1 ≤ a.length ∧ q.2.1 ≤ q.1 + 1 ∧ Kp q.2.2.1 q.2.1 q.2.2.2.1) (fun q => a.length - q.1) ((0, 1, Ce.upd (fun _ => []) 1 (enc (0 + 1) [102, 105, 114, 115, 116]), [102, 105, 114, 115, 116], 0 + 2)) (a_le ?_) ?_ ?_
    · refine le_of [(.n 9, .r 4 1 0), (.r 3 1 0, .r 3 1 0)] ?_ ?_ ?_ <;> simp [-List.map_set, -List.map_replicate, -List.reduceReplicate, -List.map_map, -List.map_drop, -List.map_take, num, bol, txt, w8, w16, w32, w64, lst, cls, rowO, boxO, List.take_of_length_le, Wr.cellsL_len, wA, Wr.k_mk, Wr.n_mk, Wr.s_mk, Wr.l_mk, Wr.cellsL, Wr.z_eq]
    · exact ⟨Nat.zero_le _, Nat.le_refl _, Kp_one' _⟩
    · rintro ⟨i, k, s, held, ct⟩ ⟨hi, hki, hK⟩
      simp only at hi hki hK
      refine a_st ?_
      refine k_seq ?_
      refine k_seq ?_
      refine k_region rfl ?_
      iterate 4 refine a_op ?_
      refine s_nil (r_false ?_)
      refine q_next ?_
      refine a_if (fun hc2 => ?_) (fun hc2 => ?_)
      · (try simp only [Bool.and_eq_true, Bool.or_eq_true, Bool.or_eq_false_iff, Bool.not_eq_true', Bool.not_eq_false', dec_t, dec_f, Bool.and_eq_false_imp, beq_iff_eq, beq_eq_false_iff_ne, ne_eq] at hc2)
        refine k_skip ?_
        refine q_next ?_
        refine k_seq ?_
        refine k_block ?_
        refine k_seq ?_
        refine k_region rfl ?_
        iterate 5 refine a_op ?_
        obtain ⟨e8, he8⟩ : ∃ e, a.getD i 0 = e := ⟨_, rfl⟩
        simp only [he8]
        have hx8 := e8.toNat_lt
        obtain ⟨cr, hcr, hcr1, hcr2⟩ : ∃ cr : Int, 1 + (e8.toNat : Int) % 4 = cr ∧ 1 ≤ cr ∧ cr ≤ 4 := ⟨_, rfl, by omega, by omega⟩
        refine a_op ?_
        refine a_op ?_
        refine a_op (hs := by (simp (disch := first | omega | (simp only [List.length_drop, List.length_take, List.length_map, List.length_append, List.length_cons, List.length_nil, List.length_replicate, List.length_set] <;> omega) | (simp only [push_cast] <;> omega) | fail) only [push_cast, reduceCtorEq, Nat.reduceAdd, Nat.reduceSub, Nat.reduceMul, Nat.reduceEqDiff, Nat.reduceLT, Nat.reduceLeDiff, Nat.reduceMod, Nat.reduceDiv, Int.reduceLE, Int.reduceLT, Int.reduceEq, Int.reduceToNat, Int.reduceAdd, Int.reduceSub, Int.reduceMul, Int.reduceNeg, hcr] <;> rfl)) ?_
        refine a_callp [.r 3 1 0] [] [] false (Ce.tearN Γ s 0 ct false cr) ?_
        refine s_nil (r_false ?_)
        refine q_next ?_
        refine k_seq ?_
        refine k_region rfl ?_
        obtain ⟨x, hxd⟩ : ∃ x, dgA i [] = x := ⟨_, rfl⟩
        have hxl : x.length ≤ 100 := by have := dgA_len i i [] (Nat.le_refl _); rw [hxd] at this; simp at this; omega
        refine a_op ?_
        refine a_call [] false ((by have h := Digits_good Γ i (by omega); rw [hxd] at h; exact h)) ?_
        refine a_op ?_
        obtain ⟨y, hyd, hyl⟩ : ∃ y, [116, 101, 120, 116, 32] ++ x = y ∧ y.length ≤ 1000 := ⟨_, rfl, by simp; omega⟩
        first | simp only [hyd] | (simp only [List.cons_append, List.nil_append] at hyd ⊢; simp only [hyd]) | (trace_state; sorry)
        refine a_op ?_
        refine s_nil (r_false ?_)
        refine q_next ?_
        refine k_seq ?_
        refine k_region rfl ?_
        obtain ⟨m, hm, hme⟩ : ∃ m : Nat, ((k : Int) + 1) % 2 = (m : Int) ∧ (k + 1) % 2 = m := ⟨(k + 1) % 2, by omega, rfl⟩
        have hK2 : Kp (Ce.upd s m (enc ((k : Int) + 1) y)) (k + 1) y := by rw [← hme]; exact Kp_next hK
        rcases (show cr = 1 ∨ cr = 2 ∨ 3 ≤ cr by omega) with hcc | hcc | hcc
        · skip
          refine a_op ?_
          refine a_op ?_
          refine a_callp [.n 9, .r 3 1 0] [] [] false (keep_w13 Γ hE s cr 0 k (by omega) m hm y (by omega) held (by omega) (by omega)) ?_
          refine a_op ?_
          refine s_nil (r_false ?_)
          refine q_next ?_
          refine k_seq ?_
          refine k_region rfl ?_
          refine a_op ?_
          refine a_op ?_
          refine s_nil (r_false ?_)
          refine q_next ?_
          refine k_seq ?_
          refine k_seq ?_
          refine k_region rfl ?_
          iterate 3 refine a_op ?_
          refine s_nil (r_false ?_)
          refine q_next ?_
          refine a_if (fun hc3 => ?_) (fun hc3 => ?_)
          · (try simp only [Bool.and_eq_true, Bool.or_eq_true, Bool.or_eq_false_iff, Bool.not_eq_true', Bool.not_eq_false', dec_t, dec_f, Bool.and_eq_false_imp, beq_iff_eq, beq_eq_false_iff_ne, ne_eq] at hc3)
            refine k_region rfl ?_
            obtain ⟨dv, hD1, hD2⟩ : ∃ dv : Nat, (e8.toNat : Int).tdiv 4 = (dv : Int) ∧ (e8.toNat : Int) / 4 = (dv : Int) := ⟨e8.toNat / 4, by rw [Int.tdiv_eq_ediv_of_nonneg (by omega)]; omega, by omega⟩
            obtain ⟨X, hX1, hX2, hX3⟩ : ∃ X : Nat, ((dv : Nat) : Int).tmod ((ks.length : Nat) : Int) = (X : Int) ∧ (dv : Int) % (ks.length : Int) = (X : Int) ∧ X < ks.length := ⟨dv % ks.length, tmod_nat _ _, (Int.natCast_emod _ _).symm, Nat.mod_lt _ (by omega)⟩
            iterate 5 refine a_op ?_
            simp only [he8]
            refine a_op ?_
            refine a_op (hs := by (simp (disch := first | omega | (simp only [List.length_drop, List.length_take, List.length_map, List.length_append, List.length_cons, List.length_nil, List.length_replicate, List.length_set] <;> omega) | (simp only [push_cast] <;> omega) | fail) only [push_cast, reduceCtorEq, Nat.reduceAdd, Nat.reduceSub, Nat.reduceMul, Nat.reduceEqDiff, Nat.reduceLT, Nat.reduceLeDiff, Nat.reduceMod, Nat.reduceDiv, Int.reduceLE, Int.reduceLT, Int.reduceEq, Int.reduceToNat, Int.reduceAdd, Int.reduceSub, Int.reduceMul, Int.reduceNeg, hD1, hD2] <;> rfl)) ?_
            refine a_op ?_
            refine a_op ?_
            refine a_op (hs := by (simp (disch := first | omega | (simp only [List.length_drop, List.length_take, List.length_map, List.length_append, List.length_cons, List.length_nil, List.length_replicate, List.length_set] <;> omega) | (simp only [push_cast] <;> omega) | fail) only [push_cast, reduceCtorEq, Nat.reduceAdd, Nat.reduceSub, Nat.reduceMul, Nat.reduceEqDiff, Nat.reduceLT, Nat.reduceLeDiff, Nat.reduceMod, Nat.reduceDiv, Int.reduceLE, Int.reduceLT, Int.reduceEq, Int.reduceToNat, Int.reduceAdd, Int.reduceSub, Int.reduceMul, Int.reduceNeg, hX1, hX2] <;> rfl)) ?_
            refine a_op ?_
            obtain ⟨kk, hkd, hkl⟩ : ∃ kk : List Bool, kk.length = ks.length - X ∧ kk.map bol = List.drop X (List.map bol ks) := ⟨ks.drop X, List.length_drop, List.map_drop⟩
            simp only [← hkd, ← hkl]
            refine a_op ?_
            refine s_nil (r_false ?_)
            refine q_next ?_
            refine k_seq ?_
            refine k_region rfl ?_
            skip
            iterate 3 refine a_op ?_
            refine a_callp [.r 3 1 0] [] [] false (Ce.fallN Γ s cr (0 + 1) true 0 kk (Nat.le_trans (show kk.length ≤ 30 by omega) (by decide))) ?_
            refine s_nil (r_false ?_)
            refine q_next ?_
            refine k_seq ?_
            refine k_region rfl ?_
            refine a_op ?_
            refine a_callp [.r 3 1 0] [] [] false (Open_kp Γ hE s 0 0 k held hK (by omega)) ?_
            iterate 5 refine a_op ?_
            refine s_nil (r_false ?_)
            refine q_next ?_
            refine k_seq ?_
            refine k_seq ?_
            refine k_region rfl ?_
            have hbb : ∃ b, (held == y) = b := ⟨_, rfl⟩
            obtain ⟨b, hbe⟩ := hbb
            rcases b with _ | _
            · skip
              refine a_op ?_
              refine a_call [] false (num_good Γ 0) ?_
              refine a_op ?_
              refine a_op ?_
              refine a_go ?_
              refine a_bygo (spec_ptrNil false rfl rfl (by kernel_rfl)) ?_
              refine a_op ?_
              refine a_op ?_
              refine a_go ?_
              refine a_callpgo [.r 18 1 0, .r 3 1 0] [] [] false (last_good Γ s 0 0 false (.t (.v (.slice none 0 0))) k held false) ?_
              refine a_go ?_
              refine a_go (hs := by (simp (disch := first | omega | (simp only [List.length_drop, List.length_take, List.length_map, List.length_append, List.length_cons, List.length_nil, List.length_replicate, List.length_set] <;> omega) | (simp only [push_cast] <;> omega) | fail) only [push_cast, reduceCtorEq, Nat.reduceAdd, Nat.reduceSub, Nat.reduceMul, Nat.reduceEqDiff, Nat.reduceLT, Nat.reduceLeDiff, Nat.reduceMod, Nat.reduceDiv, Int.reduceLE, Int.reduceLT, Int.reduceEq, Int.reduceToNat, Int.reduceAdd, Int.reduceSub, Int.reduceMul, Int.reduceNeg, hbe] <;> rfl)) ?_
              refine a_go ?_
              refine a_go ?_
              refine a_callgo [] false (num_good Γ 13) ?_
              refine a_go ?_
              refine a_go ?_
              refine a_go ?_
              refine a_callpgo [.r 18 1 0, .r 3 1 0] [] [] false (last_good Γ s 0 0 false (.t (.v (.slice none 0 0))) k held false) ?_
              refine a_go ?_
              refine a_go ?_
              refine a_go ?_
              refine a_go ?_
              refine a_op ?_
              refine a_op ?_
              refine a_go ?_
              refine a_callgo [] false (num_good Γ 13) ?_
              refine a_go ?_
              refine a_go ?_
              refine a_go ?_
              refine a_callgo [] false (num_good Γ 13) ?_
              refine a_go ?_
              refine a_go ?_
              refine a_op ?_
              refine s_nil (r_false ?_)
              refine q_next ?_
              refine a_false ?_
              refine k_skip ?_
              refine q_next ?_
              refine k_seq ?_
              refine k_region rfl ?_
              refine a_op ?_
              refine a_callp [.r 18 1 0, .r 3 1 0] [] [] false (last_good Γ s 0 0 false (.t (.v (.slice none 0 0))) k held false) ?_
              refine a_op ?_
              refine s_nil (r_false ?_)
              refine q_next ?_
              refine k_region rfl ?_
              refine a_op ?_
              refine a_op ?_
              refine s_nil (r_false ?_)
              refine q_block (q_next ?_)
              refine k_region rfl ?_
              iterate 3 refine a_op ?_
              refine s_nil (r_false ?_)
              refine q_loopF ((i + 1, k, s, held, 0)) (a_le ?_) ?_ ?_
              · refine le_of [(.n 9, .r 18 1 0), (.r 3 1 0, .r 3 1 0)] ?_ ?_ ?_ <;> simp [-List.map_set, -List.map_replicate, -List.reduceReplicate, -List.map_map, -List.map_drop, -List.map_take, num, bol, txt, w8, w16, w32, w64, lst, cls, rowO, boxO, List.take_of_length_le, Wr.cellsL_len, wA, Wr.k_mk, Wr.n_mk, Wr.s_mk, Wr.l_mk, Wr.cellsL, Wr.z_eq]
              · exact ⟨by simp only []; omega, by simp only []; omega, hK⟩
              · simp only []; omega
            · skip
              refine a_op ?_
              refine a_call [] false (num_good Γ 0) ?_
              refine a_op ?_
              refine a_op ?_
              refine a_go ?_
              refine a_bygo (spec_ptrNil false rfl rfl (by kernel_rfl)) ?_
              refine a_op ?_
              refine a_op ?_
              refine a_go ?_
              refine a_callpgo [.r 18 1 0, .r 3 1 0] [] [] false (last_good Γ s 0 0 false (.t (.v (.slice none 0 0))) k held false) ?_
              refine a_go ?_
              refine a_go (hs := by (simp (disch := first | omega | (simp only [List.length_drop, List.length_take, List.length_map, List.length_append, List.length_cons, List.length_nil, List.length_replicate, List.length_set] <;> omega) | (simp only [push_cast] <;> omega) | fail) only [push_cast, reduceCtorEq, Nat.reduceAdd, Nat.reduceSub, Nat.reduceMul, Nat.reduceEqDiff, Nat.reduceLT, Nat.reduceLeDiff, Nat.reduceMod, Nat.reduceDiv, Int.reduceLE, Int.reduceLT, Int.reduceEq, Int.reduceToNat, Int.reduceAdd, Int.reduceSub, Int.reduceMul, Int.reduceNeg, hbe] <;> rfl)) ?_
              refine a_go ?_
              refine a_no ?_
              refine a_no ?_
              refine a_no ?_
              refine a_no ?_
              refine a_no ?_
              refine a_no ?_
              refine a_no ?_
              refine a_no ?_
              refine a_no ?_
              refine a_go ?_
              refine a_op ?_
              refine a_op ?_
              refine a_go ?_
              refine a_callgo [] false (num_good Γ 13) ?_
              refine a_go ?_
              refine a_go ?_
              refine a_go ?_
              refine a_callgo [] false (num_good Γ 13) ?_
              refine a_go ?_
              refine a_go ?_
              refine a_op ?_
              refine s_nil (r_false ?_)
              refine q_next ?_
              refine a_false ?_
              refine k_skip ?_
              refine q_next ?_
              refine k_seq ?_
              refine k_region rfl ?_
              refine a_op ?_
              refine a_callp [.r 18 1 0, .r 3 1 0] [] [] false (last_good Γ s 0 0 false (.t (.v (.slice none 0 0))) k held false) ?_
              refine a_op ?_
              refine s_nil (r_false ?_)
              refine q_next ?_
              refine k_region rfl ?_
              refine a_op ?_
              refine a_op ?_
              refine s_nil (r_false ?_)
              refine q_block (q_next ?_)
              refine k_region rfl ?_
              iterate 3 refine a_op ?_
              refine s_nil (r_false ?_)
              refine q_loopF ((i + 1, k, s, held, 0)) (a_le ?_) ?_ ?_
              · refine le_of [(.n 9, .r 18 1 0), (.r 3 1 0, .r 3 1 0)] ?_ ?_ ?_ <;> simp [-List.map_set, -List.map_replicate, -List.reduceReplicate, -List.map_map, -List.map_drop, -List.map_take, num, bol, txt, w8, w16, w32, w64, lst, cls, rowO, boxO, List.take_of_length_le, Wr.cellsL_len, wA, Wr.k_mk, Wr.n_mk, Wr.s_mk, Wr.l_mk, Wr.cellsL, Wr.z_eq]
              · exact ⟨by simp only []; omega, by simp only []; omega, hK⟩
              · simp only []; omega
          · (try simp only [Bool.and_eq_true, Bool.or_eq_true, Bool.or_eq_false_iff, Bool.not_eq_true', Bool.not_eq_false', dec_t, dec_f, Bool.and_eq_false_imp, beq_iff_eq, beq_eq_false_iff_ne, ne_eq] at hc3)
            refine k_skip ?_
            refine q_next ?_
            refine k_seq ?_
            refine k_region rfl ?_
            skip
            iterate 3 refine a_op ?_
            refine a_callp [.r 3 1 0] [] [] false (Ce.fallN Γ s cr (0 + 1) true 0 ks (Nat.le_trans hy (by decide))) ?_
            refine s_nil (r_false ?_)
            refine q_next ?_
            refine k_seq ?_
            refine k_region rfl ?_
            refine a_op ?_
            refine a_callp [.r 3 1 0] [] [] false (Open_kp Γ hE s 0 0 k held hK (by omega)) ?_
            iterate 5 refine a_op ?_
            refine s_nil (r_false ?_)
            refine q_next ?_
            refine k_seq ?_
            refine k_seq ?_
            refine k_region rfl ?_
            have hbb : ∃ b, (held == y) = b := ⟨_, rfl⟩
            obtain ⟨b, hbe⟩ := hbb
            rcases b with _ | _
            · skip
              refine a_op ?_
              refine a_call [] false (num_good Γ 0) ?_
              refine a_op ?_
              refine a_op ?_
              refine a_go ?_
              refine a_bygo (spec_ptrNil false rfl rfl (by kernel_rfl)) ?_
              refine a_op ?_
              refine a_op ?_
              refine a_go ?_
              refine a_callpgo [.r 18 1 0, .r 3 1 0] [] [] false (last_good Γ s 0 0 false (.t (.v (.slice none 0 0))) k held false) ?_
              refine a_go ?_
              refine a_go (hs := by (simp (disch := first | omega | (simp only [List.length_drop, List.length_take, List.length_map, List.length_append, List.length_cons, List.length_nil, List.length_replicate, List.length_set] <;> omega) | (simp only [push_cast] <;> omega) | fail) only [push_cast, reduceCtorEq, Nat.reduceAdd, Nat.reduceSub, Nat.reduceMul, Nat.reduceEqDiff, Nat.reduceLT, Nat.reduceLeDiff, Nat.reduceMod, Nat.reduceDiv, Int.reduceLE, Int.reduceLT, Int.reduceEq, Int.reduceToNat, Int.reduceAdd, Int.reduceSub, Int.reduceMul, Int.reduceNeg, hbe] <;> rfl)) ?_
              refine a_go ?_
              refine a_go ?_
              refine a_callgo [] false (num_good Γ 13) ?_
              refine a_go ?_
              refine a_go ?_
              refine a_go ?_
              refine a_callpgo [.r 18 1 0, .r 3 1 0] [] [] false (last_good Γ s 0 0 false (.t (.v (.slice none 0 0))) k held false) ?_
              refine a_go ?_
              refine a_go ?_
              refine a_go ?_
              refine a_go ?_
              refine a_op ?_
              refine a_op ?_
              refine a_go ?_
              refine a_callgo [] false (num_good Γ 13) ?_
              refine a_go ?_
              refine a_go ?_
              refine a_go ?_
              refine a_callgo [] false (num_good Γ 13) ?_
              refine a_go ?_
              refine a_go ?_
              refine a_op ?_
              refine s_nil (r_false ?_)
              refine q_next ?_
              refine a_false ?_
              refine k_skip ?_
              refine q_next ?_
              refine k_seq ?_
              refine k_region rfl ?_
              refine a_op ?_
              refine a_callp [.r 18 1 0, .r 3 1 0] [] [] false (last_good Γ s 0 0 false (.t (.v (.slice none 0 0))) k held false) ?_
              refine a_op ?_
              refine s_nil (r_false ?_)
              refine q_next ?_
              refine k_region rfl ?_
              refine a_op ?_
              refine a_op ?_
              refine s_nil (r_false ?_)
              refine q_block (q_next ?_)
              refine k_region rfl ?_
              iterate 3 refine a_op ?_
              refine s_nil (r_false ?_)
              refine q_loopF ((i + 1, k, s, held, 0)) (a_le ?_) ?_ ?_
              · refine le_of [(.n 9, .r 18 1 0), (.r 3 1 0, .r 3 1 0)] ?_ ?_ ?_ <;> simp [-List.map_set, -List.map_replicate, -List.reduceReplicate, -List.map_map, -List.map_drop, -List.map_take, num, bol, txt, w8, w16, w32, w64, lst, cls, rowO, boxO, List.take_of_length_le, Wr.cellsL_len, wA, Wr.k_mk, Wr.n_mk, Wr.s_mk, Wr.l_mk, Wr.cellsL, Wr.z_eq]
              · exact ⟨by simp only []; omega, by simp only []; omega, hK⟩
              · simp only []; omega
            · skip
              refine a_op ?_
              refine a_call [] false (num_good Γ 0) ?_
              refine a_op ?_
              refine a_op ?_
              refine a_go ?_
              refine a_bygo (spec_ptrNil false rfl rfl (by kernel_rfl)) ?_
              refine a_op ?_
              refine a_op ?_
              refine a_go ?_
              refine a_callpgo [.r 18 1 0, .r 3 1 0] [] [] false (last_good Γ s 0 0 false (.t (.v (.slice none 0 0))) k held false) ?_
              refine a_go ?_
              refine a_go (hs := by (simp (disch := first | omega | (simp only [List.length_drop, List.length_take, List.length_map, List.length_append, List.length_cons, List.length_nil, List.length_replicate, List.length_set] <;> omega) | (simp only [push_cast] <;> omega) | fail) only [push_cast, reduceCtorEq, Nat.reduceAdd, Nat.reduceSub, Nat.reduceMul, Nat.reduceEqDiff, Nat.reduceLT, Nat.reduceLeDiff, Nat.reduceMod, Nat.reduceDiv, Int.reduceLE, Int.reduceLT, Int.reduceEq, Int.reduceToNat, Int.reduceAdd, Int.reduceSub, Int.reduceMul, Int.reduceNeg, hbe] <;> rfl)) ?_
              refine a_go ?_
              refine a_no ?_
              refine a_no ?_
              refine a_no ?_
              refine a_no ?_
              refine a_no ?_
              refine a_no ?_
              refine a_no ?_
              refine a_no ?_
              refine a_no ?_
              refine a_go ?_
              refine a_op ?_
              refine a_op ?_
              refine a_go ?_
              refine a_callgo [] false (num_good Γ 13) ?_
              refine a_go ?_
              refine a_go ?_
              refine a_go ?_
              refine a_callgo [] false (num_good Γ 13) ?_
              refine a_go ?_
              refine a_go ?_
              refine a_op ?_
              refine s_nil (r_false ?_)
              refine q_next ?_
              refine a_false ?_
              refine k_skip ?_
              refine q_next ?_
              refine k_seq ?_
              refine k_region rfl ?_
              refine a_op ?_
              refine a_callp [.r 18 1 0, .r 3 1 0] [] [] false (last_good Γ s 0 0 false (.t (.v (.slice none 0 0))) k held false) ?_
              refine a_op ?_
              refine s_nil (r_false ?_)
              refine q_next ?_
              refine k_region rfl ?_
              refine a_op ?_
              refine a_op ?_
              refine s_nil (r_false ?_)
              refine q_block (q_next ?_)
              refine k_region rfl ?_
              iterate 3 refine a_op ?_
              refine s_nil (r_false ?_)
              refine q_loopF ((i + 1, k, s, held, 0)) (a_le ?_) ?_ ?_
              · refine le_of [(.n 9, .r 18 1 0), (.r 3 1 0, .r 3 1 0)] ?_ ?_ ?_ <;> simp [-List.map_set, -List.map_replicate, -List.reduceReplicate, -List.map_map, -List.map_drop, -List.map_take, num, bol, txt, w8, w16, w32, w64, lst, cls, rowO, boxO, List.take_of_length_le, Wr.cellsL_len, wA, Wr.k_mk, Wr.n_mk, Wr.s_mk, Wr.l_mk, Wr.cellsL, Wr.z_eq]
              · exact ⟨by simp only []; omega, by simp only []; omega, hK⟩
              · simp only []; omega
        · skip
          refine a_op ?_
          refine a_op ?_
          refine a_callp [.n 9, .r 3 1 0] [] [] false (keep_s13 Γ hE s cr 0 k (by omega) m hm y (by omega) held (by omega) (by omega) (by omega)) ?_
          refine a_op ?_
          refine s_nil (r_false ?_)
          refine q_next ?_
          refine k_seq ?_
          refine k_region rfl ?_
          refine a_op ?_
          refine a_op ?_
          refine s_nil (r_false ?_)
          refine q_next ?_
          refine k_seq ?_
          refine k_seq ?_
          refine k_region rfl ?_
          iterate 3 refine a_op ?_
          refine s_nil (r_false ?_)
          refine q_next ?_
          refine a_if (fun hc3 => ?_) (fun hc3 => ?_)
          · (try simp only [Bool.and_eq_true, Bool.or_eq_true, Bool.or_eq_false_iff, Bool.not_eq_true', Bool.not_eq_false', dec_t, dec_f, Bool.and_eq_false_imp, beq_iff_eq, beq_eq_false_iff_ne, ne_eq] at hc3)
            refine k_region rfl ?_
            obtain ⟨dv, hD1, hD2⟩ : ∃ dv : Nat, (e8.toNat : Int).tdiv 4 = (dv : Int) ∧ (e8.toNat : Int) / 4 = (dv : Int) := ⟨e8.toNat / 4, by rw [Int.tdiv_eq_ediv_of_nonneg (by omega)]; omega, by omega⟩
            obtain ⟨X, hX1, hX2, hX3⟩ : ∃ X : Nat, ((dv : Nat) : Int).tmod ((ks.length : Nat) : Int) = (X : Int) ∧ (dv : Int) % (ks.length : Int) = (X : Int) ∧ X < ks.length := ⟨dv % ks.length, tmod_nat _ _, (Int.natCast_emod _ _).symm, Nat.mod_lt _ (by omega)⟩
            iterate 5 refine a_op ?_
            simp only [he8]
            refine a_op ?_
            refine a_op (hs := by (simp (disch := first | omega | (simp only [List.length_drop, List.length_take, List.length_map, List.length_append, List.length_cons, List.length_nil, List.length_replicate, List.length_set] <;> omega) | (simp only [push_cast] <;> omega) | fail) only [push_cast, reduceCtorEq, Nat.reduceAdd, Nat.reduceSub, Nat.reduceMul, Nat.reduceEqDiff, Nat.reduceLT, Nat.reduceLeDiff, Nat.reduceMod, Nat.reduceDiv, Int.reduceLE, Int.reduceLT, Int.reduceEq, Int.reduceToNat, Int.reduceAdd, Int.reduceSub, Int.reduceMul, Int.reduceNeg, hD1, hD2] <;> rfl)) ?_
            refine a_op ?_
            refine a_op ?_
            refine a_op (hs := by (simp (disch := first | omega | (simp only [List.length_drop, List.length_take, List.length_map, List.length_append, List.length_cons, List.length_nil, List.length_replicate, List.length_set] <;> omega) | (simp only [push_cast] <;> omega) | fail) only [push_cast, reduceCtorEq, Nat.reduceAdd, Nat.reduceSub, Nat.reduceMul, Nat.reduceEqDiff, Nat.reduceLT, Nat.reduceLeDiff, Nat.reduceMod, Nat.reduceDiv, Int.reduceLE, Int.reduceLT, Int.reduceEq, Int.reduceToNat, Int.reduceAdd, Int.reduceSub, Int.reduceMul, Int.reduceNeg, hX1, hX2] <;> rfl)) ?_
            refine a_op ?_
            obtain ⟨kk, hkd, hkl⟩ : ∃ kk : List Bool, kk.length = ks.length - X ∧ kk.map bol = List.drop X (List.map bol ks) := ⟨ks.drop X, List.length_drop, List.map_drop⟩
            simp only [← hkd, ← hkl]
            refine a_op ?_
            refine s_nil (r_false ?_)
            refine q_next ?_
            refine k_seq ?_
            refine k_region rfl ?_
            rcases Classical.em (0 < (kk).length ∧ (kk).getD (0 % (kk).length) default = true) with hkk | hkk
            · first | have hF := fall_yes (s := s) (m := m) (x := enc ((k : Int) + 1) y) hkk | have hF := fall_no (s := s) (m := m) (x := enc ((k : Int) + 1) y) hkk
              iterate 3 refine a_op ?_
              refine a_callp [.r 3 1 0, .r 13 2 0] [] [.r 13 2 0] false ((by have h := Ce.fallR Γ s [(m, enc ((k : Int) + 1) y)] (by simp) (in4_one (by omega)) cr (0 + 2) true 0 kk (Nat.le_trans (show kk.length ≤ 30 by omega) (by decide)); rw [hF] at h; exact h)) ?_
              refine s_nil (r_false ?_)
              refine q_next ?_
              refine k_seq ?_
              refine k_region rfl ?_
              refine a_op ?_
              refine a_callp [.r 3 1 0] [] [] false (Open_kp Γ hE (Ce.upd s m (enc ((k : Int) + 1) y)) 0 0 (k + 1) y hK2 (by omega)) ?_
              iterate 5 refine a_op ?_
              refine s_nil (r_false ?_)
              refine q_next ?_
              refine k_seq ?_
              refine k_seq ?_
              refine k_region rfl ?_
              skip
              refine a_op ?_
              refine a_call [] false (num_good Γ 0) ?_
              refine a_op ?_
              refine a_op ?_
              refine a_go ?_
              refine a_bygo (spec_ptrNil false rfl rfl (by kernel_rfl)) ?_
              refine a_op ?_
              refine a_op ?_
              refine a_go ?_
              refine a_callpgo [.r 18 1 0, .r 3 1 0] [] [] false (last_good Γ (Ce.upd s m (enc ((k : Int) + 1) y)) 0 0 false (.t (.v (.slice none 0 0))) ((k : Int) + 1) y false) ?_
              refine a_go ?_
              refine a_go ?_
              refine a_go ?_
              refine a_no ?_
              refine a_no ?_
              refine a_no ?_
              refine a_no ?_
              refine a_no ?_
              refine a_no ?_
              refine a_no ?_
              refine a_no ?_
              refine a_no ?_
              refine a_go ?_
              refine a_op ?_
              refine a_op ?_
              refine a_go ?_
              refine a_callgo [] false (num_good Γ 13) ?_
              refine a_go ?_
              refine a_go ?_
              refine a_go ?_
              refine a_callgo [] false (num_good Γ 13) ?_
              refine a_go ?_
              refine a_go ?_
              refine a_op ?_
              refine s_nil (r_false ?_)
              refine q_next ?_
              refine a_false ?_
              refine k_skip ?_
              refine q_next ?_
              refine k_seq ?_
              refine k_region rfl ?_
              refine a_op ?_
              refine a_callp [.r 18 1 0, .r 3 1 0] [] [] false (last_good Γ (Ce.upd s m (enc ((k : Int) + 1) y)) 0 0 false (.t (.v (.slice none 0 0))) ((k : Int) + 1) y false) ?_
              refine a_op ?_
              refine s_nil (r_false ?_)
              refine q_next ?_
              refine k_region rfl ?_
              refine a_op ?_
              refine a_op ?_
              refine s_nil (r_false ?_)
              refine q_block (q_next ?_)
              refine k_region rfl ?_
              iterate 3 refine a_op ?_
              refine s_nil (r_false ?_)
              refine q_loopF ((i + 1, k + 1, (Ce.upd s m (enc ((k : Int) + 1) y)), y, 0)) (a_le ?_) ?_ ?_
              · refine le_of [(.n 9, .r 18 1 0), (.r 3 1 0, .r 3 1 0)] ?_ ?_ ?_ <;> simp [-List.map_set, -List.map_replicate, -List.reduceReplicate, -List.map_map, -List.map_drop, -List.map_take, num, bol, txt, w8, w16, w32, w64, lst, cls, rowO, boxO, List.take_of_length_le, Wr.cellsL_len, wA, Wr.k_mk, Wr.n_mk, Wr.s_mk, Wr.l_mk, Wr.cellsL, Wr.z_eq]
              · exact ⟨by simp only []; omega, by simp only []; omega, hK2⟩
              · simp only []; omega
            · first | have hF := fall_yes (s := s) (m := m) (x := enc ((k : Int) + 1) y) hkk | have hF := fall_no (s := s) (m := m) (x := enc ((k : Int) + 1) y) hkk
              iterate 3 refine a_op ?_
              refine a_callp [.r 3 1 0, .r 13 2 0] [] [.r 13 2 0] false ((by have h := Ce.fallR Γ s [(m, enc ((k : Int) + 1) y)] (by simp) (in4_one (by omega)) cr (0 + 2) true 0 kk (Nat.le_trans (show kk.length ≤ 30 by omega) (by decide)); rw [hF] at h; exact h)) ?_
              refine s_nil (r_false ?_)
              refine q_next ?_
              refine k_seq ?_
              refine k_region rfl ?_
              refine a_op ?_
              refine a_callp [.r 3 1 0] [] [] false (Open_kp Γ hE s 0 0 k held hK (by omega)) ?_
              iterate 5 refine a_op ?_
              refine s_nil (r_false ?_)
              refine q_next ?_
              refine k_seq ?_
              refine k_seq ?_
              refine k_region rfl ?_
              have hbb : ∃ b, (held == y) = b := ⟨_, rfl⟩
              obtain ⟨b, hbe⟩ := hbb
              rcases b with _ | _
              · skip
                refine a_op ?_
                refine a_call [] false (num_good Γ 0) ?_
                refine a_op ?_
                refine a_op ?_
                refine a_go ?_
                refine a_bygo (spec_ptrNil false rfl rfl (by kernel_rfl)) ?_
                refine a_op ?_
                refine a_op ?_
                refine a_go ?_
                refine a_callpgo [.r 18 1 0, .r 3 1 0] [] [] false (last_good Γ s 0 0 false (.t (.v (.slice none 0 0))) k held false) ?_
                refine a_go ?_
                refine a_go (hs := by (simp (disch := first | omega | (simp only [List.length_drop, List.length_take, List.length_map, List.length_append, List.length_cons, List.length_nil, List.length_replicate, List.length_set] <;> omega) | (simp only [push_cast] <;> omega) | fail) only [push_cast, reduceCtorEq, Nat.reduceAdd, Nat.reduceSub, Nat.reduceMul, Nat.reduceEqDiff, Nat.reduceLT, Nat.reduceLeDiff, Nat.reduceMod, Nat.reduceDiv, Int.reduceLE, Int.reduceLT, Int.reduceEq, Int.reduceToNat, Int.reduceAdd, Int.reduceSub, Int.reduceMul, Int.reduceNeg, hbe] <;> rfl)) ?_
                refine a_go ?_
                refine a_go ?_
                refine a_callgo [] false (num_good Γ 13) ?_
                refine a_go ?_
                refine a_go ?_
                refine a_go ?_
                refine a_callpgo [.r 18 1 0, .r 3 1 0] [] [] false (last_good Γ s 0 0 false (.t (.v (.slice none 0 0))) k held false) ?_
                refine a_go ?_
                refine a_go ?_
                refine a_go ?_
                refine a_go ?_
                refine a_op ?_
                refine a_op ?_
                refine a_go ?_
                refine a_callgo [] false (num_good Γ 13) ?_
                refine a_go ?_
                refine a_go ?_
                refine a_go ?_
                refine a_callgo [] false (num_good Γ 13) ?_
                refine a_go ?_
                refine a_go ?_
                refine a_op ?_
                refine s_nil (r_false ?_)
                refine q_next ?_
                refine a_false ?_
                refine k_skip ?_
                refine q_next ?_
                refine k_seq ?_
                refine k_region rfl ?_
                refine a_op ?_
                refine a_callp [.r 18 1 0, .r 3 1 0] [] [] false (last_good Γ s 0 0 false (.t (.v (.slice none 0 0))) k held false) ?_
                refine a_op ?_
                refine s_nil (r_false ?_)
                refine q_next ?_
                refine k_region rfl ?_
                refine a_op ?_
                refine a_op ?_
                refine s_nil (r_false ?_)
                refine q_block (q_next ?_)
                refine k_region rfl ?_
                iterate 3 refine a_op ?_
                refine s_nil (r_false ?_)
                refine q_loopF ((i + 1, k, s, held, 0)) (a_le ?_) ?_ ?_
                · refine le_of [(.n 9, .r 18 1 0), (.r 3 1 0, .r 3 1 0)] ?_ ?_ ?_ <;> simp [-List.map_set, -List.map_replicate, -List.reduceReplicate, -List.map_map, -List.map_drop, -List.map_take, num, bol, txt, w8, w16, w32, w64, lst, cls, rowO, boxO, List.take_of_length_le, Wr.cellsL_len, wA, Wr.k_mk, Wr.n_mk, Wr.s_mk, Wr.l_mk, Wr.cellsL, Wr.z_eq]
                · exact ⟨by simp only []; omega, by simp only []; omega, hK⟩
                · simp only []; omega
              · skip
                refine a_op ?_
                refine a_call [] false (num_good Γ 0) ?_
                refine a_op ?_
                refine a_op ?_
                refine a_go ?_
                refine a_bygo (spec_ptrNil false rfl rfl (by kernel_rfl)) ?_
                refine a_op ?_
                refine a_op ?_
                refine a_go ?_
                refine a_callpgo [.r 18 1 0, .r 3 1 0] [] [] false (last_good Γ s 0 0 false (.t (.v (.slice none 0 0))) k held false) ?_
                refine a_go ?_
                refine a_go (hs := by (simp (disch := first | omega | (simp only [List.length_drop, List.length_take, List.length_map, List.length_append, List.length_cons, List.length_nil, List.length_replicate, List.length_set] <;> omega) | (simp only [push_cast] <;> omega) | fail) only [push_cast, reduceCtorEq, Nat.reduceAdd, Nat.reduceSub, Nat.reduceMul, Nat.reduceEqDiff, Nat.reduceLT, Nat.reduceLeDiff, Nat.reduceMod, Nat.reduceDiv, Int.reduceLE, Int.reduceLT, Int.reduceEq, Int.reduceToNat, Int.reduceAdd, Int.reduceSub, Int.reduceMul, Int.reduceNeg, hbe] <;> rfl)) ?_
                refine a_go ?_
                refine a_no ?_
                refine a_no ?_
                refine a_no ?_
                refine a_no ?_
                refine a_no ?_
                refine a_no ?_
                refine a_no ?_
                refine a_no ?_
                refine a_no ?_
                refine a_go ?_
                refine a_op ?_
                refine a_op ?_
                refine a_go ?_
                refine a_callgo [] false (num_good Γ 13) ?_
                refine a_go ?_
                refine a_go ?_
                refine a_go ?_
                refine a_callgo [] false (num_good Γ 13) ?_
                refine a_go ?_
                refine a_go ?_
                refine a_op ?_
                refine s_nil (r_false ?_)
                refine q_next ?_
                refine a_false ?_
                refine k_skip ?_
                refine q_next ?_
                refine k_seq ?_
                refine k_region rfl ?_
                refine a_op ?_
                refine a_callp [.r 18 1 0, .r 3 1 0] [] [] false (last_good Γ s 0 0 false (.t (.v (.slice none 0 0))) k held false) ?_
                refine a_op ?_
                refine s_nil (r_false ?_)
                refine q_next ?_
                refine k_region rfl ?_
                refine a_op ?_
                refine a_op ?_
                refine s_nil (r_false ?_)
                refine q_block (q_next ?_)
                refine k_region rfl ?_
                iterate 3 refine a_op ?_
                refine s_nil (r_false ?_)
                refine q_loopF ((i + 1, k, s, held, 0)) (a_le ?_) ?_ ?_
                · refine le_of [(.n 9, .r 18 1 0), (.r 3 1 0, .r 3 1 0)] ?_ ?_ ?_ <;> simp [-List.map_set, -List.map_replicate, -List.reduceReplicate, -List.map_map, -List.map_drop, -List.map_take, num, bol, txt, w8, w16, w32, w64, lst, cls, rowO, boxO, List.take_of_length_le, Wr.cellsL_len, wA, Wr.k_mk, Wr.n_mk, Wr.s_mk, Wr.l_mk, Wr.cellsL, Wr.z_eq]
                · exact ⟨by simp only []; omega, by simp only []; omega, hK⟩
                · simp only []; omega
          · (try simp only [Bool.and_eq_true, Bool.or_eq_true, Bool.or_eq_false_iff, Bool.not_eq_true', Bool.not_eq_false', dec_t, dec_f, Bool.and_eq_false_imp, beq_iff_eq, beq_eq_false_iff_ne, ne_eq] at hc3)
            refine k_skip ?_
            refine q_next ?_
            refine k_seq ?_
            refine k_region rfl ?_
            have hkk : ¬ (0 < ks.length ∧ ks.getD (0 % ks.length) default = true) := fun h => hc3 (by omega)
            · have hF := fall_no (s := s) (m := m) (x := enc ((k : Int) + 1) y) hkk
              iterate 3 refine a_op ?_
              refine a_callp [.r 3 1 0, .r 13 2 0] [] [.r 13 2 0] false ((by have h := Ce.fallR Γ s [(m, enc ((k : Int) + 1) y)] (by simp) (in4_one (by omega)) cr (0 + 2) true 0 ks (Nat.le_trans hy (by decide)); rw [hF] at h; exact h)) ?_
              refine s_nil (r_false ?_)
              refine q_next ?_
              refine k_seq ?_
              refine k_region rfl ?_
              refine a_op ?_
              refine a_callp [.r 3 1 0] [] [] false (Open_kp Γ hE s 0 0 k held hK (by omega)) ?_
              iterate 5 refine a_op ?_
              refine s_nil (r_false ?_)
              refine q_next ?_
              refine k_seq ?_
              refine k_seq ?_
              refine k_region rfl ?_
              have hbb : ∃ b, (held == y) = b := ⟨_, rfl⟩
              obtain ⟨b, hbe⟩ := hbb
              rcases b with _ | _
              · skip
                refine a_op ?_
                refine a_call [] false (num_good Γ 0) ?_
                refine a_op ?_
                refine a_op ?_
                refine a_go ?_
                refine a_bygo (spec_ptrNil false rfl rfl (by kernel_rfl)) ?_
                refine a_op ?_
                refine a_op ?_
                refine a_go ?_
                refine a_callpgo [.r 18 1 0, .r 3 1 0] [] [] false (last_good Γ s 0 0 false (.t (.v (.slice none 0 0))) k held false) ?_
                refine a_go ?_
                refine a_go (hs := by (simp (disch := first | omega | (simp only [List.length_drop, List.length_take, List.length_map, List.length_append, List.length_cons, List.length_nil, List.length_replicate, List.length_set] <;> omega) | (simp only [push_cast] <;> omega) | fail) only [push_cast, reduceCtorEq, Nat.reduceAdd, Nat.reduceSub, Nat.reduceMul, Nat.reduceEqDiff, Nat.reduceLT, Nat.reduceLeDiff, Nat.reduceMod, Nat.reduceDiv, Int.reduceLE, Int.reduceLT, Int.reduceEq, Int.reduceToNat, Int.reduceAdd, Int.reduceSub, Int.reduceMul, Int.reduceNeg, hbe] <;> rfl)) ?_
                refine a_go ?_
                refine a_go ?_
                refine a_callgo [] false (num_good Γ 13) ?_
                refine a_go ?_
                refine a_go ?_
                refine a_go ?_
                refine a_callpgo [.r 18 1 0, .r 3 1 0] [] [] false (last_good Γ s 0 0 false (.t (.v (.slice none 0 0))) k held false) ?_
                refine a_go ?_
                refine a_go ?_
                refine a_go ?_
                refine a_go ?_
                refine a_op ?_
                refine a_op ?_
                refine a_go ?_
                refine a_callgo [] false (num_good Γ 13) ?_
                refine a_go ?_
                refine a_go ?_
                refine a_go ?_
                refine a_callgo [] false (num_good Γ 13) ?_
                refine a_go ?_
                refine a_go ?_
                refine a_op ?_
                refine s_nil (r_false ?_)
                refine q_next ?_
                refine a_false ?_
                refine k_skip ?_
                refine q_next ?_
                refine k_seq ?_
                refine k_region rfl ?_
                refine a_op ?_
                refine a_callp [.r 18 1 0, .r 3 1 0] [] [] false (last_good Γ s 0 0 false (.t (.v (.slice none 0 0))) k held false) ?_
                refine a_op ?_
                refine s_nil (r_false ?_)
                refine q_next ?_
                refine k_region rfl ?_
                refine a_op ?_
                refine a_op ?_
                refine s_nil (r_false ?_)
                refine q_block (q_next ?_)
                refine k_region rfl ?_
                iterate 3 refine a_op ?_
                refine s_nil (r_false ?_)
                refine q_loopF ((i + 1, k, s, held, 0)) (a_le ?_) ?_ ?_
                · refine le_of [(.n 9, .r 18 1 0), (.r 3 1 0, .r 3 1 0)] ?_ ?_ ?_ <;> simp [-List.map_set, -List.map_replicate, -List.reduceReplicate, -List.map_map, -List.map_drop, -List.map_take, num, bol, txt, w8, w16, w32, w64, lst, cls, rowO, boxO, List.take_of_length_le, Wr.cellsL_len, wA, Wr.k_mk, Wr.n_mk, Wr.s_mk, Wr.l_mk, Wr.cellsL, Wr.z_eq]
                · exact ⟨by simp only []; omega, by simp only []; omega, hK⟩
                · simp only []; omega
              · skip
                refine a_op ?_
                refine a_call [] false (num_good Γ 0) ?_
                refine a_op ?_
                refine a_op ?_
                refine a_go ?_
                refine a_bygo (spec_ptrNil false rfl rfl (by kernel_rfl)) ?_
                refine a_op ?_
                refine a_op ?_
                refine a_go ?_
                refine a_callpgo [.r 18 1 0, .r 3 1 0] [] [] false (last_good Γ s 0 0 false (.t (.v (.slice none 0 0))) k held false) ?_
                refine a_go ?_
                refine a_go (hs := by (simp (disch := first | omega | (simp only [List.length_drop, List.length_take, List.length_map, List.length_append, List.length_cons, List.length_nil, List.length_replicate, List.length_set] <;> omega) | (simp only [push_cast] <;> omega) | fail) only [push_cast, reduceCtorEq, Nat.reduceAdd, Nat.reduceSub, Nat.reduceMul, Nat.reduceEqDiff, Nat.reduceLT, Nat.reduceLeDiff, Nat.reduceMod, Nat.reduceDiv, Int.reduceLE, Int.reduceLT, Int.reduceEq, Int.reduceToNat, Int.reduceAdd, Int.reduceSub, Int.reduceMul, Int.reduceNeg, hbe] <;> rfl)) ?_
                refine a_go ?_
                refine a_no ?_
                refine a_no ?_
                refine a_no ?_
                refine a_no ?_
                refine a_no ?_
                refine a_no ?_
                refine a_no ?_
                refine a_no ?_
                refine a_no ?_
                refine a_go ?_
                refine a_op ?_
                refine a_op ?_
                refine a_go ?_
                refine a_callgo [] false (num_good Γ 13) ?_
                refine a_go ?_
                refine a_go ?_
                refine a_go ?_
                refine a_callgo [] false (num_good Γ 13) ?_
                refine a_go ?_
                refine a_go ?_
                refine a_op ?_
                refine s_nil (r_false ?_)
                refine q_next ?_
                refine a_false ?_
                refine k_skip ?_
                refine q_next ?_
                refine k_seq ?_
                refine k_region rfl ?_
                refine a_op ?_
                refine a_callp [.r 18 1 0, .r 3 1 0] [] [] false (last_good Γ s 0 0 false (.t (.v (.slice none 0 0))) k held false) ?_
                refine a_op ?_
                refine s_nil (r_false ?_)
                refine q_next ?_
                refine k_region rfl ?_
                refine a_op ?_
                refine a_op ?_
                refine s_nil (r_false ?_)
                refine q_block (q_next ?_)
                refine k_region rfl ?_
                iterate 3 refine a_op ?_
                refine s_nil (r_false ?_)
                refine q_loopF ((i + 1, k, s, held, 0)) (a_le ?_) ?_ ?_
                · refine le_of [(.n 9, .r 18 1 0), (.r 3 1 0, .r 3 1 0)] ?_ ?_ ?_ <;> simp [-List.map_set, -List.map_replicate, -List.reduceReplicate, -List.map_map, -List.map_drop, -List.map_take, num, bol, txt, w8, w16, w32, w64, lst, cls, rowO, boxO, List.take_of_length_le, Wr.cellsL_len, wA, Wr.k_mk, Wr.n_mk, Wr.s_mk, Wr.l_mk, Wr.cellsL, Wr.z_eq]
                · exact ⟨by simp only []; omega, by simp only []; omega, hK⟩
                · simp only []; omega
        · skip
          refine a_op ?_
          refine a_op ?_
          refine a_callp [.n 9, .r 3 1 0] [] [] false (keep_ok Γ s cr 0 k (by omega) m hm y (by omega) held (by omega) (by omega) (by omega)) ?_
          refine a_op ?_
          refine s_nil (r_false ?_)
          refine q_next ?_
          refine k_seq ?_
          refine k_region rfl ?_
          refine a_op ?_
          refine a_op ?_
          refine s_nil (r_false ?_)
          refine q_next ?_
          refine k_seq ?_
          refine k_seq ?_
          refine k_region rfl ?_
          iterate 3 refine a_op ?_
          refine s_nil (r_false ?_)
          refine q_next ?_
          refine a_if (fun hc3 => ?_) (fun hc3 => ?_)
          · (try simp only [Bool.and_eq_true, Bool.or_eq_true, Bool.or_eq_false_iff, Bool.not_eq_true', Bool.not_eq_false', dec_t, dec_f, Bool.and_eq_false_imp, beq_iff_eq, beq_eq_false_iff_ne, ne_eq] at hc3)
            refine k_region rfl ?_
            obtain ⟨dv, hD1, hD2⟩ : ∃ dv : Nat, (e8.toNat : Int).tdiv 4 = (dv : Int) ∧ (e8.toNat : Int) / 4 = (dv : Int) := ⟨e8.toNat / 4, by rw [Int.tdiv_eq_ediv_of_nonneg (by omega)]; omega, by omega⟩
            obtain ⟨X, hX1, hX2, hX3⟩ : ∃ X : Nat, ((dv : Nat) : Int).tmod ((ks.length : Nat) : Int) = (X : Int) ∧ (dv : Int) % (ks.length : Int) = (X : Int) ∧ X < ks.length := ⟨dv % ks.length, tmod_nat _ _, (Int.natCast_emod _ _).symm, Nat.mod_lt _ (by omega)⟩
            iterate 5 refine a_op ?_
            simp only [he8]
            refine a_op ?_
            refine a_op (hs := by (simp (disch := first | omega | (simp only [List.length_drop, List.length_take, List.length_map, List.length_append, List.length_cons, List.length_nil, List.length_replicate, List.length_set] <;> omega) | (simp only [push_cast] <;> omega) | fail) only [push_cast, reduceCtorEq, Nat.reduceAdd, Nat.reduceSub, Nat.reduceMul, Nat.reduceEqDiff, Nat.reduceLT, Nat.reduceLeDiff, Nat.reduceMod, Nat.reduceDiv, Int.reduceLE, Int.reduceLT, Int.reduceEq, Int.reduceToNat, Int.reduceAdd, Int.reduceSub, Int.reduceMul, Int.reduceNeg, hD1, hD2] <;> rfl)) ?_
            refine a_op ?_
            refine a_op ?_
            refine a_op (hs := by (simp (disch := first | omega | (simp only [List.length_drop, List.length_take, List.length_map, List.length_append, List.length_cons, List.length_nil, List.length_replicate, List.length_set] <;> omega) | (simp only [push_cast] <;> omega) | fail) only [push_cast, reduceCtorEq, Nat.reduceAdd, Nat.reduceSub, Nat.reduceMul, Nat.reduceEqDiff, Nat.reduceLT, Nat.reduceLeDiff, Nat.reduceMod, Nat.reduceDiv, Int.reduceLE, Int.reduceLT, Int.reduceEq, Int.reduceToNat, Int.reduceAdd, Int.reduceSub, Int.reduceMul, Int.reduceNeg, hX1, hX2] <;> rfl)) ?_
            refine a_op ?_
            obtain ⟨kk, hkd, hkl⟩ : ∃ kk : List Bool, kk.length = ks.length - X ∧ kk.map bol = List.drop X (List.map bol ks) := ⟨ks.drop X, List.length_drop, List.map_drop⟩
            simp only [← hkd, ← hkl]
            refine a_op ?_
            refine s_nil (r_false ?_)
            refine q_next ?_
            refine k_seq ?_
            refine k_region rfl ?_
            skip
            iterate 3 refine a_op ?_
            refine a_callp [.r 3 1 0] [] [] false (Ce.fallN Γ (Ce.upd s m (enc ((k : Int) + 1) y)) cr (0 + 2) false 0 kk (Nat.le_trans (show kk.length ≤ 30 by omega) (by decide))) ?_
            refine s_nil (r_false ?_)
            refine q_next ?_
            refine k_seq ?_
            refine k_region rfl ?_
            refine a_op ?_
            refine a_callp [.r 3 1 0] [] [] false (Open_kp Γ hE (Ce.upd s m (enc ((k : Int) + 1) y)) 0 0 (k + 1) y hK2 (by omega)) ?_
            iterate 5 refine a_op ?_
            refine s_nil (r_false ?_)
            refine q_next ?_
            refine k_seq ?_
            refine k_seq ?_
            refine k_region rfl ?_
            skip
            refine a_op ?_
            refine a_call [] false (num_good Γ 0) ?_
            refine a_op ?_
            refine a_op ?_
            refine a_go ?_
            refine a_bygo (spec_ptrNil false rfl rfl (by kernel_rfl)) ?_
            refine a_op ?_
            refine a_op ?_
            refine a_go ?_
            refine a_callpgo [.r 18 1 0, .r 3 1 0] [] [] false (last_good Γ (Ce.upd s m (enc ((k : Int) + 1) y)) 0 0 false (.t (.v (.slice none 0 0))) ((k : Int) + 1) y false) ?_
            refine a_go ?_
            refine a_go ?_
            refine a_go ?_
            refine a_no ?_
            refine a_no ?_
            refine a_no ?_
            refine a_no ?_
            refine a_no ?_
            refine a_no ?_
            refine a_no ?_
            refine a_no ?_
            refine a_no ?_
            refine a_go ?_
            refine a_op ?_
            refine a_op ?_
            refine a_go ?_
            refine a_callgo [] false (num_good Γ 0) ?_
            refine a_go ?_
            refine a_go ?_
            refine a_no ?_
            refine a_no ?_
            refine a_no ?_
            refine a_go ?_
            refine a_op ?_
            refine s_nil (r_false ?_)
            refine q_next ?_
            refine a_false ?_
            refine k_skip ?_
            refine q_next ?_
            refine k_seq ?_
            refine k_region rfl ?_
            refine a_op ?_
            refine a_callp [.r 18 1 0, .r 3 1 0] [] [] false (last_good Γ (Ce.upd s m (enc ((k : Int) + 1) y)) 0 0 false (.t (.v (.slice none 0 0))) ((k : Int) + 1) y false) ?_
            refine a_op ?_
            refine s_nil (r_false ?_)
            refine q_next ?_
            refine k_region rfl ?_
            refine a_op ?_
            refine a_op ?_
            refine s_nil (r_false ?_)
            refine q_block (q_next ?_)
            refine k_region rfl ?_
            iterate 3 refine a_op ?_
            refine s_nil (r_false ?_)
            refine q_loopF ((i + 1, k + 1, (Ce.upd s m (enc ((k : Int) + 1) y)), y, 0)) (a_le ?_) ?_ ?_
            · refine le_of [(.n 9, .r 18 1 0), (.r 3 1 0, .r 3 1 0)] ?_ ?_ ?_ <;> simp [-List.map_set, -List.map_replicate, -List.reduceReplicate, -List.map_map, -List.map_drop, -List.map_take, num, bol, txt, w8, w16, w32, w64, lst, cls, rowO, boxO, List.take_of_length_le, Wr.cellsL_len, wA, Wr.k_mk, Wr.n_mk, Wr.s_mk, Wr.l_mk, Wr.cellsL, Wr.z_eq]
            · exact ⟨by simp only []; omega, by simp only []; omega, hK2⟩
            · simp only []; omega
          · (try simp only [Bool.and_eq_true, Bool.or_eq_true, Bool.or_eq_false_iff, Bool.not_eq_true', Bool.not_eq_false', dec_t, dec_f, Bool.and_eq_false_imp, beq_iff_eq, beq_eq_false_iff_ne, ne_eq] at hc3)
            refine k_skip ?_
            refine q_next ?_
            refine k_seq ?_
            refine k_region rfl ?_
            skip
            iterate 3 refine a_op ?_
            refine a_callp [.r 3 1 0] [] [] false (Ce.fallN Γ (Ce.upd s m (enc ((k : Int) + 1) y)) cr (0 + 2) false 0 ks (Nat.le_trans hy (by decide))) ?_
            refine s_nil (r_false ?_)
            refine q_next ?_
            refine k_seq ?_
            refine k_region rfl ?_
            refine a_op ?_
            refine a_callp [.r 3 1 0] [] [] false (Open_kp Γ hE (Ce.upd s m (enc ((k : Int) + 1) y)) 0 0 (k + 1) y hK2 (by omega)) ?_
            iterate 5 refine a_op ?_
            refine s_nil (r_false ?_)
            refine q_next ?_
            refine k_seq ?_
            refine k_seq ?_
            refine k_region rfl ?_
            skip
            refine a_op ?_
            refine a_call [] false (num_good Γ 0) ?_
            refine a_op ?_
            refine a_op ?_
            refine a_go ?_
            refine a_bygo (spec_ptrNil false rfl rfl (by kernel_rfl)) ?_
            refine a_op ?_
            refine a_op ?_
            refine a_go ?_
            refine a_callpgo [.r 18 1 0, .r 3 1 0] [] [] false (last_good Γ (Ce.upd s m (enc ((k : Int) + 1) y)) 0 0 false (.t (.v (.slice none 0 0))) ((k : Int) + 1) y false) ?_
            refine a_go ?_
            refine a_go ?_
            refine a_go ?_
            refine a_no ?_
            refine a_no ?_
            refine a_no ?_
            refine a_no ?_
            refine a_no ?_
            refine a_no ?_
            refine a_no ?_
            refine a_no ?_
            refine a_no ?_
            refine a_go ?_
            refine a_op ?_
            refine a_op ?_
            refine a_go ?_
            refine a_callgo [] false (num_good Γ 0) ?_
            refine a_go ?_
            refine a_go ?_
            refine a_no ?_
            refine a_no ?_
            refine a_no ?_
            refine a_go ?_
            refine a_op ?_
            refine s_nil (r_false ?_)
            refine q_next ?_
            refine a_false ?_
            refine k_skip ?_
            refine q_next ?_
            refine k_seq ?_
            refine k_region rfl ?_
            refine a_op ?_
            refine a_callp [.r 18 1 0, .r 3 1 0] [] [] false (last_good Γ (Ce.upd s m (enc ((k : Int) + 1) y)) 0 0 false (.t (.v (.slice none 0 0))) ((k : Int) + 1) y false) ?_
            refine a_op ?_
            refine s_nil (r_false ?_)
            refine q_next ?_
            refine k_region rfl ?_
            refine a_op ?_
            refine a_op ?_
            refine s_nil (r_false ?_)
            refine q_block (q_next ?_)
            refine k_region rfl ?_
            iterate 3 refine a_op ?_
            refine s_nil (r_false ?_)
            refine q_loopF ((i + 1, k + 1, (Ce.upd s m (enc ((k : Int) + 1) y)), y, 0)) (a_le ?_) ?_ ?_
            · refine le_of [(.n 9, .r 18 1 0), (.r 3 1 0, .r 3 1 0)] ?_ ?_ ?_ <;> simp [-List.map_set, -List.map_replicate, -List.reduceReplicate, -List.map_map, -List.map_drop, -List.map_take, num, bol, txt, w8, w16, w32, w64, lst, cls, rowO, boxO, List.take_of_length_le, Wr.cellsL_len, wA, Wr.k_mk, Wr.n_mk, Wr.s_mk, Wr.l_mk, Wr.cellsL, Wr.z_eq]
            · exact ⟨by simp only []; omega, by simp only []; omega, hK2⟩
            · simp only []; omega
      · (try simp only [Bool.and_eq_true, Bool.or_eq_true, Bool.or_eq_false_iff, Bool.not_eq_true', Bool.not_eq_false', dec_t, dec_f, Bool.and_eq_false_imp, beq_iff_eq, beq_eq_false_iff_ne, ne_eq] at hc2)
        refine k_exit ?_
        refine q_seq_exit (q_loopF_exit (q_block_exit (q_next ?_)))
        refine k_seq ?_
        refine k_region rfl ?_
        refine a_call [] false (awake_good Γ hE) ?_
        refine a_op ?_
        refine s_nil (r_false ?_)
        refine q_next ?_
        refine k_ret ?_
        refine ⟨.inr rfl, a_ret [] (by rw [results7]) ?_ ?_ ?_⟩ <;> simp [-List.map_set, -List.map_replicate, -List.reduceReplicate, -List.map_map, -List.map_drop, -List.map_take, num, bol, txt, w8, w16, w32, w64, lst, cls, rowO, boxO, List.take_of_length_le, Wr.cellsL_len, wA, Wr.k_mk, Wr.n_mk, Wr.s_mk, Wr.l_mk, Wr.cellsL, Wr.z_eq]

end Go.Proofs.Tryd
