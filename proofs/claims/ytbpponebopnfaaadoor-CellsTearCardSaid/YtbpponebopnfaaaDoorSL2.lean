import Derived.Test.YtbpponebopnfaaaDoorSL1
set_option maxHeartbeats 4000000
set_option maxRecDepth 100000
set_option linter.unusedVariables false
set_option linter.unusedSimpArgs false
namespace Go.Proofs.Tryd
open Go Go.Ot
attribute [local irreducible] wpK wpS seqK blockK loopF regK meetK OpSpec Le nowF fallF
theorem tear_good (Γ : Gl) (hE : EG Γ) (x y w : UInt8) : Go.Ot.Good Γ prog 6 [.t (w8 x), .t (w8 y), .t (w8 w)] [] (.t (bol true)) [] [] := by
  have hx := x.toNat_lt
  have hy := y.toNat_lt
  have hw := w.toNat_lt
  refine a_body F.mix func6 (by rfl) ntmps6 ?_
  refine k_seq ?_
  refine k_region rfl ?_
  refine a_op ?_
  refine s_nil (r_false ?_)
  refine q_next ?_
  refine k_seq ?_
  refine k_region rfl ?_
  iterate 5 refine a_op ?_
  obtain ⟨k, hke, hk1, hk2⟩ : ∃ k : Nat, 1 + (x.toNat : Int) % 10 = (k : Int) ∧ 1 ≤ k ∧ k ≤ 10 := ⟨1 + x.toNat % 10, by omega, by omega, by omega⟩
  simp only [hke]
  refine s_nil (r_false ?_)
  refine q_next ?_
  refine k_seq ?_
  refine k_region rfl ?_
  refine a_op ?_
  refine a_op ?_
  refine a_call [] false (New_good Γ k (.v (.slice none 0 0))) ?_
  refine a_op ?_
  refine s_nil (r_false ?_)
  refine q_next ?_
  refine k_seq ?_
  refine k_seq ?_
  refine k_region rfl ?_
  refine a_op ?_
  refine a_by (spec_ptrNil false rfl rfl (by kernel_rfl)) ?_
  refine s_nil (r_false ?_)
  refine q_next ?_
  refine a_false ?_
  refine k_skip ?_
  refine q_next ?_
  refine k_seq ?_
  refine k_seq ?_
  refine k_region rfl ?_
  refine a_op ?_
  refine a_op ?_
  refine s_nil (r_false ?_)
  refine q_next ?_
  refine a_if (fun hc1 => ?_) (fun hc1 => ?_)
  · (try simp only [Bool.and_eq_true, Bool.or_eq_true, Bool.or_eq_false_iff, Bool.not_eq_true', Bool.not_eq_false', dec_t, dec_f, Bool.and_eq_false_imp, beq_iff_eq, beq_eq_false_iff_ne, ne_eq] at hc1)
    refine k_seq ?_
    refine k_region rfl ?_
    iterate 5 refine a_op ?_
    rename Nat => k0
    obtain ⟨k, hke, hk1, hk2⟩ : ∃ k : Nat, 1 + (y.toNat : Int) % 10 = (k : Int) ∧ 1 ≤ k ∧ k ≤ 10 := ⟨1 + y.toNat % 10, by omega, by omega, by omega⟩
    simp only [hke]
    refine s_nil (r_false ?_)
    refine q_next ?_
    refine k_region rfl ?_
    refine a_op ?_
    refine a_op ?_
    refine a_callp [.r 2 2 0] [] [] false (tearN Γ (fun _ => []) k0 0 false k) ?_
    refine s_nil (r_false ?_)
    refine q_next ?_
    refine k_seq ?_
    refine k_seq ?_
    refine k_region rfl ?_
    refine a_op ?_
    refine s_nil (r_false ?_)
    refine q_next ?_
    refine k_block ?_
    refine k_loopF (fun sl L (q : TQ) => ⟨setAll (setBad sl [0, 1, 6, 10, 16, 17, 18, 19, 20, 21, 22, 23, 24, 25, 26, 27, 28, 29, 30, 31, 32, 33, 34, 35, 36, 37, 38, 39, 40, 41, 42, 43, 44, 45, 46, 47, 48, 49, 50, 51, 52, 53, 54, 55, 56, 57, 58, 59, 60, 61, 62, 63, 64, 65, 66]) [(9, .t (num ((q.1 : Int) + 1)))], Go.Ot.look (putL (.r 2 2 0) (boxO 57 [.t (txt (q.2.2.2.1 0)), .t (txt (q.2.2.2.1 1)), .t (txt (q.2.2.2.1 2)), .t (txt (q.2.2.2.1 3)), loD q.2.1 (.r 14 3 0) q.2.2.2.2.1.length, .t (num (k)), .t (.v (.slice none 0 0)), .t (num (q.2.2.2.2.2)), .t (bol (q.2.2.1))]) (rowL q.2.1 (.r 14 3 0) q.2.2.2.2.1 L))⟩) (TI k) (fun q => 10 - q.1) ((0, true, false, (fun _ => []), [], 0)) (a_le ?_) ?_ ?_
    · refine le_same ?_ ?_ ?_ <;> simp [-List.map_set, -List.map_replicate, -List.reduceReplicate, -List.map_map, -List.map_drop, -List.map_take, num, bol, txt, w8, w16, w32, w64, lst, cls, rowO, boxO, List.take_of_length_le]
    · refine ⟨?_, ?_, ?_, ?_, ?_, ?_⟩ <;> simp only [] <;> first | omega | exact In4_nil | (simp; done) | (simp; omega)
    · rintro ⟨j, z, d, s, l, ct⟩ ⟨hj, hl', h4, hz, hd, hct⟩
      simp only at hj hl' h4 hz hd hct
      have hl : l.length ≤ 1000000 := by omega
      have h6 : (z = false ∧ d = false ∧ ct + 1 = (k : Int) ∧ ct = (j : Int) ∧ j < k) ∨ (z = false ∧ d = false ∧ ¬ ct + 1 = (k : Int) ∧ ct = (j : Int) ∧ j < k) ∨ (z = false ∧ d = true ∧ k ≤ j) ∨ (z = true ∧ l = [] ∧ d = false ∧ ct + 1 = (k : Int) ∧ ct = (j : Int) ∧ j < k) ∨ (z = true ∧ l = [] ∧ d = false ∧ ¬ ct + 1 = (k : Int) ∧ ct = (j : Int) ∧ j < k) ∨ (z = true ∧ l = [] ∧ d = true ∧ k ≤ j) := by
        rcases z with _ | _ <;> rcases d with _ | _ <;> rcases Decidable.em (ct + 1 = (k : Int)) with h | h <;> simp_all
      clear hz hd hct
      rcases h6 with ⟨rfl, rfl, h1, h2, h3⟩ | ⟨rfl, rfl, h1, h2, h3⟩ | ⟨rfl, rfl, h3⟩ | ⟨rfl, rfl, rfl, h1, h2, h3⟩ | ⟨rfl, rfl, rfl, h1, h2, h3⟩ | ⟨rfl, rfl, rfl, h3⟩
      · refine a_st ?_
        refine k_seq ?_
        refine k_seq ?_
        refine k_region rfl ?_
        refine a_op ?_
        refine a_op ?_
        refine s_nil (r_false ?_)
        refine q_next ?_
        refine a_if (fun hc2 => ?_) (fun hc2 => ?_)
        · (try simp only [Bool.and_eq_true, Bool.or_eq_true, Bool.or_eq_false_iff, Bool.not_eq_true', Bool.not_eq_false', dec_t, dec_f, Bool.and_eq_false_imp, beq_iff_eq, beq_eq_false_iff_ne, ne_eq] at hc2)
          refine k_skip ?_
          refine q_next ?_
          refine k_seq ?_
          refine k_block ?_
          refine k_seq ?_
          refine k_region rfl ?_
          refine a_op ?_
          refine s_nil (r_false ?_)
          refine q_next ?_
          refine k_seq ?_
          refine k_seq ?_
          refine k_region rfl ?_
          iterate 6 refine a_op ?_
          refine s_nil (r_false ?_)
          refine q_next ?_
          refine a_if (fun hc3 => ?_) (fun hc3 => ?_)
          · (try simp only [Bool.and_eq_true, Bool.or_eq_true, Bool.or_eq_false_iff, Bool.not_eq_true', Bool.not_eq_false', dec_t, dec_f, Bool.and_eq_false_imp, beq_iff_eq, beq_eq_false_iff_ne, ne_eq] at hc3)
            refine k_region rfl ?_
            refine a_op ?_
            refine a_callp [.r 2 2 0, .r 14 3 0] [] [.r 14 3 0] false (sy_lastR Γ hE s l hl h4 k ct (by omega) h1) ?_
            refine a_op ?_
            refine s_nil (r_false ?_)
            refine q_next ?_
            refine k_seq ?_
            refine k_region rfl ?_
            refine a_op ?_
            refine a_call [] false (num_good Γ 13) ?_
            iterate 6 refine a_op ?_
            refine a_go ?_
            refine a_callgo [] false (num_good Γ 13) ?_
            refine a_go ?_
            refine a_go ?_
            refine a_go ?_
            refine a_callgo [] false (num_good Γ 13) ?_
            refine a_go ?_
            refine a_go ?_
            refine a_op ?_
            refine s_nil (r_false ?_)
            refine q_next ?_
            refine a_false ?_
            refine k_skip ?_
            refine q_block (q_next ?_)
            refine k_region rfl ?_
            iterate 3 refine a_op ?_
            refine s_nil (r_false ?_)
            refine q_loopF ((j + 1, false, true, s, l, ct + 1)) (a_le ?_) ?_ ?_
            · refine le_same ?_ ?_ ?_ <;> simp [-List.map_set, -List.map_replicate, -List.reduceReplicate, -List.map_map, -List.map_drop, -List.map_take, num, bol, txt, w8, w16, w32, w64, lst, cls, rowO, boxO, List.take_of_length_le]
            · refine ⟨?_, ?_, ?_, ?_, ?_, ?_⟩ <;> simp only [] <;> first | omega | exact In4_nil | exact In4_snoc h4 hm4 | exact In4_snoc In4_nil hm4 | exact h4 | (simp; done) | (simp; omega) | (intro h; cases h) | (constructor <;> intro h <;> first | omega | rfl | cases h)
            · simp only []; omega
          · (try simp only [Bool.and_eq_true, Bool.or_eq_true, Bool.or_eq_false_iff, Bool.not_eq_true', Bool.not_eq_false', dec_t, dec_f, Bool.and_eq_false_imp, beq_iff_eq, beq_eq_false_iff_ne, ne_eq] at hc3)
            refine k_region rfl ?_
            obtain ⟨m, hm, hm4⟩ : ∃ m : Nat, ((j : Int) + 1) % 4 = (m : Int) ∧ m < 4 := ⟨(j + 1) % 4, by omega, by omega⟩
            refine a_op ?_
            refine a_op ?_
            refine a_op (hs := by (simp (disch := omega) only [push_cast, hm] <;> rfl)) ?_
            refine a_callp [.r 2 2 0, .r 14 3 0] [] [.r 14 3 0] false (wr_lastR Γ hE s l hl h4 k ct m [120] (by omega) (by omega) (by omega) h1) ?_
            refine a_op ?_
            refine s_nil (r_false ?_)
            refine q_next ?_
            refine k_seq ?_
            refine k_region rfl ?_
            refine a_op ?_
            refine a_call [] false (num_good Γ 13) ?_
            iterate 6 refine a_op ?_
            refine a_go ?_
            refine a_callgo [] false (num_good Γ 13) ?_
            refine a_go ?_
            refine a_go ?_
            refine a_go ?_
            refine a_callgo [] false (num_good Γ 13) ?_
            refine a_go ?_
            refine a_go ?_
            refine a_op ?_
            refine s_nil (r_false ?_)
            refine q_next ?_
            refine a_false ?_
            refine k_skip ?_
            refine q_block (q_next ?_)
            refine k_region rfl ?_
            iterate 3 refine a_op ?_
            refine s_nil (r_false ?_)
            refine q_loopF ((j + 1, false, true, s, l, ct + 1)) (a_le ?_) ?_ ?_
            · refine le_same ?_ ?_ ?_ <;> simp [-List.map_set, -List.map_replicate, -List.reduceReplicate, -List.map_map, -List.map_drop, -List.map_take, num, bol, txt, w8, w16, w32, w64, lst, cls, rowO, boxO, List.take_of_length_le]
            · refine ⟨?_, ?_, ?_, ?_, ?_, ?_⟩ <;> simp only [] <;> first | omega | exact In4_nil | exact In4_snoc h4 hm4 | exact In4_snoc In4_nil hm4 | exact h4 | (simp; done) | (simp; omega) | (intro h; cases h) | (constructor <;> intro h <;> first | omega | rfl | cases h)
            · simp only []; omega
        · (try simp only [Bool.and_eq_true, Bool.or_eq_true, Bool.or_eq_false_iff, Bool.not_eq_true', Bool.not_eq_false', dec_t, dec_f, Bool.and_eq_false_imp, beq_iff_eq, beq_eq_false_iff_ne, ne_eq] at hc2)
          exfalso; first | omega | cases hc2
      · refine a_st ?_
        refine k_seq ?_
        refine k_seq ?_
        refine k_region rfl ?_
        refine a_op ?_
        refine a_op ?_
        refine s_nil (r_false ?_)
        refine q_next ?_
        refine a_if (fun hc2 => ?_) (fun hc2 => ?_)
        · (try simp only [Bool.and_eq_true, Bool.or_eq_true, Bool.or_eq_false_iff, Bool.not_eq_true', Bool.not_eq_false', dec_t, dec_f, Bool.and_eq_false_imp, beq_iff_eq, beq_eq_false_iff_ne, ne_eq] at hc2)
          refine k_skip ?_
          refine q_next ?_
          refine k_seq ?_
          refine k_block ?_
          refine k_seq ?_
          refine k_region rfl ?_
          refine a_op ?_
          refine s_nil (r_false ?_)
          refine q_next ?_
          refine k_seq ?_
          refine k_seq ?_
          refine k_region rfl ?_
          iterate 6 refine a_op ?_
          refine s_nil (r_false ?_)
          refine q_next ?_
          refine a_if (fun hc3 => ?_) (fun hc3 => ?_)
          · (try simp only [Bool.and_eq_true, Bool.or_eq_true, Bool.or_eq_false_iff, Bool.not_eq_true', Bool.not_eq_false', dec_t, dec_f, Bool.and_eq_false_imp, beq_iff_eq, beq_eq_false_iff_ne, ne_eq] at hc3)
            refine k_region rfl ?_
            refine a_op ?_
            refine a_callp [.r 2 2 0, .r 14 3 0] [] [.r 14 3 0] false (sy_okR Γ s l hl h4 k ct (by omega) h1) ?_
            refine a_op ?_
            refine s_nil (r_false ?_)
            refine q_next ?_
            refine k_seq ?_
            refine k_region rfl ?_
            refine a_op ?_
            refine a_call [] false (num_good Γ 0) ?_
            iterate 6 refine a_op ?_
            refine a_go ?_
            refine a_callgo [] false (num_good Γ 0) ?_
            refine a_go ?_
            refine a_go ?_
            refine a_no ?_
            refine a_no ?_
            refine a_no ?_
            refine a_go ?_
            refine a_op ?_
            refine s_nil (r_false ?_)
            refine q_next ?_
            refine a_false ?_
            refine k_skip ?_
            refine q_block (q_next ?_)
            refine k_region rfl ?_
            iterate 3 refine a_op ?_
            refine s_nil (r_false ?_)
            refine q_loopF ((j + 1, true, false, nowF s l, [], ct + 1)) (a_le ?_) ?_ ?_
            · refine le_same ?_ ?_ ?_ <;> simp [-List.map_set, -List.map_replicate, -List.reduceReplicate, -List.map_map, -List.map_drop, -List.map_take, num, bol, txt, w8, w16, w32, w64, lst, cls, rowO, boxO, List.take_of_length_le]
            · refine ⟨?_, ?_, ?_, ?_, ?_, ?_⟩ <;> simp only [] <;> first | omega | exact In4_nil | exact In4_snoc h4 hm4 | exact In4_snoc In4_nil hm4 | exact h4 | (simp; done) | (simp; omega) | (intro h; cases h) | (constructor <;> intro h <;> first | omega | rfl | cases h)
            · simp only []; omega
          · (try simp only [Bool.and_eq_true, Bool.or_eq_true, Bool.or_eq_false_iff, Bool.not_eq_true', Bool.not_eq_false', dec_t, dec_f, Bool.and_eq_false_imp, beq_iff_eq, beq_eq_false_iff_ne, ne_eq] at hc3)
            refine k_region rfl ?_
            obtain ⟨m, hm, hm4⟩ : ∃ m : Nat, ((j : Int) + 1) % 4 = (m : Int) ∧ m < 4 := ⟨(j + 1) % 4, by omega, by omega⟩
            refine a_op ?_
            refine a_op ?_
            refine a_op (hs := by (simp (disch := omega) only [push_cast, hm] <;> rfl)) ?_
            refine a_callp [.r 2 2 0, .r 14 3 0] [] [.r 14 3 0] false (wr_okR Γ s l hl h4 k ct m [120] hm4 (by omega) h1) ?_
            refine a_op ?_
            refine s_nil (r_false ?_)
            refine q_next ?_
            refine k_seq ?_
            refine k_region rfl ?_
            refine a_op ?_
            refine a_call [] false (num_good Γ 0) ?_
            iterate 6 refine a_op ?_
            refine a_go ?_
            refine a_callgo [] false (num_good Γ 0) ?_
            refine a_go ?_
            refine a_go ?_
            refine a_no ?_
            refine a_no ?_
            refine a_no ?_
            refine a_go ?_
            refine a_op ?_
            refine s_nil (r_false ?_)
            refine q_next ?_
            refine a_false ?_
            refine k_skip ?_
            refine q_block (q_next ?_)
            refine k_region rfl ?_
            iterate 3 refine a_op ?_
            refine s_nil (r_false ?_)
            refine q_loopF ((j + 1, false, false, s, l ++ [(m, [120])], ct + 1)) (a_le ?_) ?_ ?_
            · refine le_same ?_ ?_ ?_ <;> simp [-List.map_set, -List.map_replicate, -List.reduceReplicate, -List.map_map, -List.map_drop, -List.map_take, num, bol, txt, w8, w16, w32, w64, lst, cls, rowO, boxO, List.take_of_length_le]
            · refine ⟨?_, ?_, ?_, ?_, ?_, ?_⟩ <;> simp only [] <;> first | omega | exact In4_nil | exact In4_snoc h4 hm4 | exact In4_snoc In4_nil hm4 | exact h4 | (simp; done) | (simp; omega) | (intro h; cases h) | (constructor <;> intro h <;> first | omega | rfl | cases h)
            · simp only []; omega
        · (try simp only [Bool.and_eq_true, Bool.or_eq_true, Bool.or_eq_false_iff, Bool.not_eq_true', Bool.not_eq_false', dec_t, dec_f, Bool.and_eq_false_imp, beq_iff_eq, beq_eq_false_iff_ne, ne_eq] at hc2)
          exfalso; first | omega | cases hc2
      · refine a_st ?_
        refine k_seq ?_
        refine k_seq ?_
        refine k_region rfl ?_
        refine a_op ?_
        refine a_op ?_
        refine s_nil (r_false ?_)
        refine q_next ?_
        refine a_if (fun hc2 => ?_) (fun hc2 => ?_)
        · (try simp only [Bool.and_eq_true, Bool.or_eq_true, Bool.or_eq_false_iff, Bool.not_eq_true', Bool.not_eq_false', dec_t, dec_f, Bool.and_eq_false_imp, beq_iff_eq, beq_eq_false_iff_ne, ne_eq] at hc2)
          refine k_skip ?_
          refine q_next ?_
          refine k_seq ?_
          refine k_block ?_
          refine k_seq ?_
          refine k_region rfl ?_
          refine a_op ?_
          refine s_nil (r_false ?_)
          refine q_next ?_
          refine k_seq ?_
          refine k_seq ?_
          refine k_region rfl ?_
          iterate 6 refine a_op ?_
          refine s_nil (r_false ?_)
          refine q_next ?_
          refine a_if (fun hc3 => ?_) (fun hc3 => ?_)
          · (try simp only [Bool.and_eq_true, Bool.or_eq_true, Bool.or_eq_false_iff, Bool.not_eq_true', Bool.not_eq_false', dec_t, dec_f, Bool.and_eq_false_imp, beq_iff_eq, beq_eq_false_iff_ne, ne_eq] at hc3)
            refine k_region rfl ?_
            refine a_op ?_
            refine a_callp [.r 2 2 0, .r 14 3 0] [] [.r 14 3 0] false (sy_dnR Γ hE s l hl h4 k ct ) ?_
            refine a_op ?_
            refine s_nil (r_false ?_)
            refine q_next ?_
            refine k_seq ?_
            refine k_region rfl ?_
            refine a_op ?_
            refine a_call [] false (num_good Γ 13) ?_
            iterate 6 refine a_op ?_
            refine a_go ?_
            refine a_callgo [] false (num_good Γ 13) ?_
            refine a_go ?_
            refine a_go ?_
            refine a_go ?_
            refine a_callgo [] false (num_good Γ 13) ?_
            refine a_go ?_
            refine a_go ?_
            refine a_op ?_
            refine s_nil (r_false ?_)
            refine q_next ?_
            refine a_false ?_
            refine k_skip ?_
            refine q_block (q_next ?_)
            refine k_region rfl ?_
            iterate 3 refine a_op ?_
            refine s_nil (r_false ?_)
            refine q_loopF ((j + 1, false, true, s, l, ct)) (a_le ?_) ?_ ?_
            · refine le_same ?_ ?_ ?_ <;> simp [-List.map_set, -List.map_replicate, -List.reduceReplicate, -List.map_map, -List.map_drop, -List.map_take, num, bol, txt, w8, w16, w32, w64, lst, cls, rowO, boxO, List.take_of_length_le]
            · refine ⟨?_, ?_, ?_, ?_, ?_, ?_⟩ <;> simp only [] <;> first | omega | exact In4_nil | exact In4_snoc h4 hm4 | exact In4_snoc In4_nil hm4 | exact h4 | (simp; done) | (simp; omega) | (intro h; cases h) | (constructor <;> intro h <;> first | omega | rfl | cases h)
            · simp only []; omega
          · (try simp only [Bool.and_eq_true, Bool.or_eq_true, Bool.or_eq_false_iff, Bool.not_eq_true', Bool.not_eq_false', dec_t, dec_f, Bool.and_eq_false_imp, beq_iff_eq, beq_eq_false_iff_ne, ne_eq] at hc3)
            refine k_region rfl ?_
            obtain ⟨m, hm, hm4⟩ : ∃ m : Nat, ((j : Int) + 1) % 4 = (m : Int) ∧ m < 4 := ⟨(j + 1) % 4, by omega, by omega⟩
            refine a_op ?_
            refine a_op ?_
            refine a_op (hs := by (simp (disch := omega) only [push_cast, hm] <;> rfl)) ?_
            refine a_callp [.r 2 2 0, .r 14 3 0] [] [.r 14 3 0] false (wr_dnR Γ hE s l hl h4 k ct m [120]) ?_
            refine a_op ?_
            refine s_nil (r_false ?_)
            refine q_next ?_
            refine k_seq ?_
            refine k_region rfl ?_
            refine a_op ?_
            refine a_call [] false (num_good Γ 13) ?_
            iterate 6 refine a_op ?_
            refine a_go ?_
            refine a_callgo [] false (num_good Γ 13) ?_
            refine a_go ?_
            refine a_go ?_
            refine a_go ?_
            refine a_callgo [] false (num_good Γ 13) ?_
            refine a_go ?_
            refine a_go ?_
            refine a_op ?_
            refine s_nil (r_false ?_)
            refine q_next ?_
            refine a_false ?_
            refine k_skip ?_
            refine q_block (q_next ?_)
            refine k_region rfl ?_
            iterate 3 refine a_op ?_
            refine s_nil (r_false ?_)
            refine q_loopF ((j + 1, false, true, s, l, ct)) (a_le ?_) ?_ ?_
            · refine le_same ?_ ?_ ?_ <;> simp [-List.map_set, -List.map_replicate, -List.reduceReplicate, -List.map_map, -List.map_drop, -List.map_take, num, bol, txt, w8, w16, w32, w64, lst, cls, rowO, boxO, List.take_of_length_le]
            · refine ⟨?_, ?_, ?_, ?_, ?_, ?_⟩ <;> simp only [] <;> first | omega | exact In4_nil | exact In4_snoc h4 hm4 | exact In4_snoc In4_nil hm4 | exact h4 | (simp; done) | (simp; omega) | (intro h; cases h) | (constructor <;> intro h <;> first | omega | rfl | cases h)
            · simp only []; omega
        · (try simp only [Bool.and_eq_true, Bool.or_eq_true, Bool.or_eq_false_iff, Bool.not_eq_true', Bool.not_eq_false', dec_t, dec_f, Bool.and_eq_false_imp, beq_iff_eq, beq_eq_false_iff_ne, ne_eq] at hc2)
          refine k_exit ?_
          refine q_seq_exit (q_loopF_exit (q_block_exit (q_next ?_)))
          refine k_seq ?_
          refine k_region rfl ?_
          refine a_op ?_
          refine a_callp [.r 2 2 0, .r 14 3 0] [] [.r 14 3 0] false (rd_dnR Γ hE s l hl h4 k ct 0) ?_
          iterate 5 refine a_op ?_
          refine s_nil (r_false ?_)
          refine q_next ?_
          refine k_seq ?_
          refine k_region rfl ?_
          refine a_op ?_
          refine a_callp [.r 2 2 0, .r 14 3 0] [] [.r 14 3 0] false (downR Γ s l hl h4 k ct true) ?_
          refine a_op ?_
          refine s_nil (r_false ?_)
          refine q_next ?_
          refine k_seq ?_
          refine k_region rfl ?_
          refine a_op ?_
          refine a_op ?_
          refine a_callp [.r 2 2 0, .r 14 3 0] [] [.r 14 3 0] false (fallR Γ s l hl h4 k ct true 0 [] (by decide)) ?_
          refine s_nil (r_false ?_)
          refine q_next ?_
          refine k_seq ?_
          refine k_region rfl ?_
          refine a_op ?_
          refine a_callp [.r 2 2 0] [] [] false (rd_okN Γ (fallF s l [] l.length) 0 0 0 (by omega)) ?_
          iterate 5 refine a_op ?_
          refine s_nil (r_false ?_)
          refine q_next ?_
          refine k_seq ?_
          refine k_region rfl ?_
          refine a_op ?_
          refine a_call [] false (num_good Γ 13) ?_
          refine a_op ?_
          refine a_op ?_
          refine a_go ?_
          refine a_op ?_
          refine a_op ?_
          refine a_go ?_
          refine a_callgo [] false (num_good Γ 0) ?_
          refine a_go ?_
          refine a_op ?_
          refine a_op ?_
          refine a_go ?_
          refine a_callpgo [.r 2 2 0] [] [] false (downN Γ (fallF s l [] l.length) 0 0 false) ?_
          refine a_go ?_
          refine a_op ?_
          refine a_op ?_
          refine a_callgo [] false (awake_good Γ hE) ?_
          refine a_op ?_
          refine a_op ?_
          refine s_nil (r_false ?_)
          refine q_next ?_
          refine k_ret ?_
          refine ⟨.inr rfl, a_ret [] (by rw [results6]) ?_ ?_ ?_⟩ <;> simp [-List.map_set, -List.map_replicate, -List.reduceReplicate, -List.map_map, -List.map_drop, -List.map_take, num, bol, txt, w8, w16, w32, w64, lst, cls, rowO, boxO, List.take_of_length_le]
      · refine a_st ?_
        refine k_seq ?_
        refine k_seq ?_
        refine k_region rfl ?_
        refine a_op ?_
        refine a_op ?_
        refine s_nil (r_false ?_)
        refine q_next ?_
        refine a_if (fun hc2 => ?_) (fun hc2 => ?_)
        · (try simp only [Bool.and_eq_true, Bool.or_eq_true, Bool.or_eq_false_iff, Bool.not_eq_true', Bool.not_eq_false', dec_t, dec_f, Bool.and_eq_false_imp, beq_iff_eq, beq_eq_false_iff_ne, ne_eq] at hc2)
          refine k_skip ?_
          refine q_next ?_
          refine k_seq ?_
          refine k_block ?_
          refine k_seq ?_
          refine k_region rfl ?_
          refine a_op ?_
          refine s_nil (r_false ?_)
          refine q_next ?_
          refine k_seq ?_
          refine k_seq ?_
          refine k_region rfl ?_
          iterate 6 refine a_op ?_
          refine s_nil (r_false ?_)
          refine q_next ?_
          refine a_if (fun hc3 => ?_) (fun hc3 => ?_)
          · (try simp only [Bool.and_eq_true, Bool.or_eq_true, Bool.or_eq_false_iff, Bool.not_eq_true', Bool.not_eq_false', dec_t, dec_f, Bool.and_eq_false_imp, beq_iff_eq, beq_eq_false_iff_ne, ne_eq] at hc3)
            refine k_region rfl ?_
            refine a_op ?_
            refine a_callp [.r 2 2 0] [] [] false (sy_lastN Γ hE s k ct (by omega) h1) ?_
            refine a_op ?_
            refine s_nil (r_false ?_)
            refine q_next ?_
            refine k_seq ?_
            refine k_region rfl ?_
            refine a_op ?_
            refine a_call [] false (num_good Γ 13) ?_
            iterate 6 refine a_op ?_
            refine a_go ?_
            refine a_callgo [] false (num_good Γ 13) ?_
            refine a_go ?_
            refine a_go ?_
            refine a_go ?_
            refine a_callgo [] false (num_good Γ 13) ?_
            refine a_go ?_
            refine a_go ?_
            refine a_op ?_
            refine s_nil (r_false ?_)
            refine q_next ?_
            refine a_false ?_
            refine k_skip ?_
            refine q_block (q_next ?_)
            refine k_region rfl ?_
            iterate 3 refine a_op ?_
            refine s_nil (r_false ?_)
            refine q_loopF ((j + 1, true, true, s, [], ct + 1)) (a_le ?_) ?_ ?_
            · refine le_same ?_ ?_ ?_ <;> simp [-List.map_set, -List.map_replicate, -List.reduceReplicate, -List.map_map, -List.map_drop, -List.map_take, num, bol, txt, w8, w16, w32, w64, lst, cls, rowO, boxO, List.take_of_length_le]
            · refine ⟨?_, ?_, ?_, ?_, ?_, ?_⟩ <;> simp only [] <;> first | omega | exact In4_nil | exact In4_snoc h4 hm4 | exact In4_snoc In4_nil hm4 | exact h4 | (simp; done) | (simp; omega) | (intro h; cases h) | (constructor <;> intro h <;> first | omega | rfl | cases h)
            · simp only []; omega
          · (try simp only [Bool.and_eq_true, Bool.or_eq_true, Bool.or_eq_false_iff, Bool.not_eq_true', Bool.not_eq_false', dec_t, dec_f, Bool.and_eq_false_imp, beq_iff_eq, beq_eq_false_iff_ne, ne_eq] at hc3)
            refine k_region rfl ?_
            obtain ⟨m, hm, hm4⟩ : ∃ m : Nat, ((j : Int) + 1) % 4 = (m : Int) ∧ m < 4 := ⟨(j + 1) % 4, by omega, by omega⟩
            refine a_op ?_
            refine a_op ?_
            refine a_op (hs := by (simp (disch := omega) only [push_cast, hm] <;> rfl)) ?_
            refine a_callp [.r 2 2 0] [] [] false (wr_lastN Γ hE s k ct m [120] (by omega) (by omega) (by omega) h1) ?_
            refine a_op ?_
            refine s_nil (r_false ?_)
            refine q_next ?_
            refine k_seq ?_
            refine k_region rfl ?_
            refine a_op ?_
            refine a_call [] false (num_good Γ 13) ?_
            iterate 6 refine a_op ?_
            refine a_go ?_
            refine a_callgo [] false (num_good Γ 13) ?_
            refine a_go ?_
            refine a_go ?_
            refine a_go ?_
            refine a_callgo [] false (num_good Γ 13) ?_
            refine a_go ?_
            refine a_go ?_
            refine a_op ?_
            refine s_nil (r_false ?_)
            refine q_next ?_
            refine a_false ?_
            refine k_skip ?_
            refine q_block (q_next ?_)
            refine k_region rfl ?_
            iterate 3 refine a_op ?_
            refine s_nil (r_false ?_)
            refine q_loopF ((j + 1, true, true, s, [], ct + 1)) (a_le ?_) ?_ ?_
            · refine le_same ?_ ?_ ?_ <;> simp [-List.map_set, -List.map_replicate, -List.reduceReplicate, -List.map_map, -List.map_drop, -List.map_take, num, bol, txt, w8, w16, w32, w64, lst, cls, rowO, boxO, List.take_of_length_le]
            · refine ⟨?_, ?_, ?_, ?_, ?_, ?_⟩ <;> simp only [] <;> first | omega | exact In4_nil | exact In4_snoc h4 hm4 | exact In4_snoc In4_nil hm4 | exact h4 | (simp; done) | (simp; omega) | (intro h; cases h) | (constructor <;> intro h <;> first | omega | rfl | cases h)
            · simp only []; omega
        · (try simp only [Bool.and_eq_true, Bool.or_eq_true, Bool.or_eq_false_iff, Bool.not_eq_true', Bool.not_eq_false', dec_t, dec_f, Bool.and_eq_false_imp, beq_iff_eq, beq_eq_false_iff_ne, ne_eq] at hc2)
          exfalso; first | omega | cases hc2
      · refine a_st ?_
        refine k_seq ?_
        refine k_seq ?_
        refine k_region rfl ?_
        refine a_op ?_
        refine a_op ?_
        refine s_nil (r_false ?_)
        refine q_next ?_
        refine a_if (fun hc2 => ?_) (fun hc2 => ?_)
        · (try simp only [Bool.and_eq_true, Bool.or_eq_true, Bool.or_eq_false_iff, Bool.not_eq_true', Bool.not_eq_false', dec_t, dec_f, Bool.and_eq_false_imp, beq_iff_eq, beq_eq_false_iff_ne, ne_eq] at hc2)
          refine k_skip ?_
          refine q_next ?_
          refine k_seq ?_
          refine k_block ?_
          refine k_seq ?_
          refine k_region rfl ?_
          refine a_op ?_
          refine s_nil (r_false ?_)
          refine q_next ?_
          refine k_seq ?_
          refine k_seq ?_
          refine k_region rfl ?_
          iterate 6 refine a_op ?_
          refine s_nil (r_false ?_)
          refine q_next ?_
          refine a_if (fun hc3 => ?_) (fun hc3 => ?_)
          · (try simp only [Bool.and_eq_true, Bool.or_eq_true, Bool.or_eq_false_iff, Bool.not_eq_true', Bool.not_eq_false', dec_t, dec_f, Bool.and_eq_false_imp, beq_iff_eq, beq_eq_false_iff_ne, ne_eq] at hc3)
            refine k_region rfl ?_
            refine a_op ?_
            refine a_callp [.r 2 2 0] [] [] false (sy_okN Γ s k ct (by omega) h1) ?_
            refine a_op ?_
            refine s_nil (r_false ?_)
            refine q_next ?_
            refine k_seq ?_
            refine k_region rfl ?_
            refine a_op ?_
            refine a_call [] false (num_good Γ 0) ?_
            iterate 6 refine a_op ?_
            refine a_go ?_
            refine a_callgo [] false (num_good Γ 0) ?_
            refine a_go ?_
            refine a_go ?_
            refine a_no ?_
            refine a_no ?_
            refine a_no ?_
            refine a_go ?_
            refine a_op ?_
            refine s_nil (r_false ?_)
            refine q_next ?_
            refine a_false ?_
            refine k_skip ?_
            refine q_block (q_next ?_)
            refine k_region rfl ?_
            iterate 3 refine a_op ?_
            refine s_nil (r_false ?_)
            refine q_loopF ((j + 1, true, false, s, [], ct + 1)) (a_le ?_) ?_ ?_
            · refine le_same ?_ ?_ ?_ <;> simp [-List.map_set, -List.map_replicate, -List.reduceReplicate, -List.map_map, -List.map_drop, -List.map_take, num, bol, txt, w8, w16, w32, w64, lst, cls, rowO, boxO, List.take_of_length_le]
            · refine ⟨?_, ?_, ?_, ?_, ?_, ?_⟩ <;> simp only [] <;> first | omega | exact In4_nil | exact In4_snoc h4 hm4 | exact In4_snoc In4_nil hm4 | exact h4 | (simp; done) | (simp; omega) | (intro h; cases h) | (constructor <;> intro h <;> first | omega | rfl | cases h)
            · simp only []; omega
          · (try simp only [Bool.and_eq_true, Bool.or_eq_true, Bool.or_eq_false_iff, Bool.not_eq_true', Bool.not_eq_false', dec_t, dec_f, Bool.and_eq_false_imp, beq_iff_eq, beq_eq_false_iff_ne, ne_eq] at hc3)
            refine k_region rfl ?_
            obtain ⟨m, hm, hm4⟩ : ∃ m : Nat, ((j : Int) + 1) % 4 = (m : Int) ∧ m < 4 := ⟨(j + 1) % 4, by omega, by omega⟩
            refine a_op ?_
            refine a_op ?_
            refine a_op (hs := by (simp (disch := omega) only [push_cast, hm] <;> rfl)) ?_
            refine a_callp [.r 2 2 0] [] [] false (wr_okN Γ s k ct m [120] hm4 (by omega) h1) ?_
            refine a_op ?_
            refine s_nil (r_false ?_)
            refine q_next ?_
            refine k_seq ?_
            refine k_region rfl ?_
            refine a_op ?_
            refine a_call [] false (num_good Γ 0) ?_
            iterate 6 refine a_op ?_
            refine a_go ?_
            refine a_callgo [] false (num_good Γ 0) ?_
            refine a_go ?_
            refine a_go ?_
            refine a_no ?_
            refine a_no ?_
            refine a_no ?_
            refine a_go ?_
            refine a_op ?_
            refine s_nil (r_false ?_)
            refine q_next ?_
            refine a_false ?_
            refine k_skip ?_
            refine q_block (q_next ?_)
            refine k_region rfl ?_
            iterate 3 refine a_op ?_
            refine s_nil (r_false ?_)
            refine q_loopF ((j + 1, false, false, s, [(m, [120])], ct + 1)) (a_le ?_) ?_ ?_
            · refine le_same ?_ ?_ ?_ <;> simp [-List.map_set, -List.map_replicate, -List.reduceReplicate, -List.map_map, -List.map_drop, -List.map_take, num, bol, txt, w8, w16, w32, w64, lst, cls, rowO, boxO, List.take_of_length_le]
            · refine ⟨?_, ?_, ?_, ?_, ?_, ?_⟩ <;> simp only [] <;> first | omega | exact In4_nil | exact In4_snoc h4 hm4 | exact In4_snoc In4_nil hm4 | exact h4 | (simp; done) | (simp; omega) | (intro h; cases h) | (constructor <;> intro h <;> first | omega | rfl | cases h)
            · simp only []; omega
        · (try simp only [Bool.and_eq_true, Bool.or_eq_true, Bool.or_eq_false_iff, Bool.not_eq_true', Bool.not_eq_false', dec_t, dec_f, Bool.and_eq_false_imp, beq_iff_eq, beq_eq_false_iff_ne, ne_eq] at hc2)
          exfalso; first | omega | cases hc2
      · refine a_st ?_
        refine k_seq ?_
        refine k_seq ?_
        refine k_region rfl ?_
        refine a_op ?_
        refine a_op ?_
        refine s_nil (r_false ?_)
        refine q_next ?_
        refine a_if (fun hc2 => ?_) (fun hc2 => ?_)
        · (try simp only [Bool.and_eq_true, Bool.or_eq_true, Bool.or_eq_false_iff, Bool.not_eq_true', Bool.not_eq_false', dec_t, dec_f, Bool.and_eq_false_imp, beq_iff_eq, beq_eq_false_iff_ne, ne_eq] at hc2)
          refine k_skip ?_
          refine q_next ?_
          refine k_seq ?_
          refine k_block ?_
          refine k_seq ?_
          refine k_region rfl ?_
          refine a_op ?_
          refine s_nil (r_false ?_)
          refine q_next ?_
          refine k_seq ?_
          refine k_seq ?_
          refine k_region rfl ?_
          iterate 6 refine a_op ?_
          refine s_nil (r_false ?_)
          refine q_next ?_
          refine a_if (fun hc3 => ?_) (fun hc3 => ?_)
          · (try simp only [Bool.and_eq_true, Bool.or_eq_true, Bool.or_eq_false_iff, Bool.not_eq_true', Bool.not_eq_false', dec_t, dec_f, Bool.and_eq_false_imp, beq_iff_eq, beq_eq_false_iff_ne, ne_eq] at hc3)
            refine k_region rfl ?_
            refine a_op ?_
            refine a_callp [.r 2 2 0] [] [] false (sy_dnN Γ hE s k ct ) ?_
            refine a_op ?_
            refine s_nil (r_false ?_)
            refine q_next ?_
            refine k_seq ?_
            refine k_region rfl ?_
            refine a_op ?_
            refine a_call [] false (num_good Γ 13) ?_
            iterate 6 refine a_op ?_
            refine a_go ?_
            refine a_callgo [] false (num_good Γ 13) ?_
            refine a_go ?_
            refine a_go ?_
            refine a_go ?_
            refine a_callgo [] false (num_good Γ 13) ?_
            refine a_go ?_
            refine a_go ?_
            refine a_op ?_
            refine s_nil (r_false ?_)
            refine q_next ?_
            refine a_false ?_
            refine k_skip ?_
            refine q_block (q_next ?_)
            refine k_region rfl ?_
            iterate 3 refine a_op ?_
            refine s_nil (r_false ?_)
            refine q_loopF ((j + 1, true, true, s, [], ct)) (a_le ?_) ?_ ?_
            · refine le_same ?_ ?_ ?_ <;> simp [-List.map_set, -List.map_replicate, -List.reduceReplicate, -List.map_map, -List.map_drop, -List.map_take, num, bol, txt, w8, w16, w32, w64, lst, cls, rowO, boxO, List.take_of_length_le]
            · refine ⟨?_, ?_, ?_, ?_, ?_, ?_⟩ <;> simp only [] <;> first | omega | exact In4_nil | exact In4_snoc h4 hm4 | exact In4_snoc In4_nil hm4 | exact h4 | (simp; done) | (simp; omega) | (intro h; cases h) | (constructor <;> intro h <;> first | omega | rfl | cases h)
            · simp only []; omega
          · (try simp only [Bool.and_eq_true, Bool.or_eq_true, Bool.or_eq_false_iff, Bool.not_eq_true', Bool.not_eq_false', dec_t, dec_f, Bool.and_eq_false_imp, beq_iff_eq, beq_eq_false_iff_ne, ne_eq] at hc3)
            refine k_region rfl ?_
            obtain ⟨m, hm, hm4⟩ : ∃ m : Nat, ((j : Int) + 1) % 4 = (m : Int) ∧ m < 4 := ⟨(j + 1) % 4, by omega, by omega⟩
            refine a_op ?_
            refine a_op ?_
            refine a_op (hs := by (simp (disch := omega) only [push_cast, hm] <;> rfl)) ?_
            refine a_callp [.r 2 2 0] [] [] false (wr_dnN Γ hE s k ct m [120]) ?_
            refine a_op ?_
            refine s_nil (r_false ?_)
            refine q_next ?_
            refine k_seq ?_
            refine k_region rfl ?_
            refine a_op ?_
            refine a_call [] false (num_good Γ 13) ?_
            iterate 6 refine a_op ?_
            refine a_go ?_
            refine a_callgo [] false (num_good Γ 13) ?_
            refine a_go ?_
            refine a_go ?_
            refine a_go ?_
            refine a_callgo [] false (num_good Γ 13) ?_
            refine a_go ?_
            refine a_go ?_
            refine a_op ?_
            refine s_nil (r_false ?_)
            refine q_next ?_
            refine a_false ?_
            refine k_skip ?_
            refine q_block (q_next ?_)
            refine k_region rfl ?_
            iterate 3 refine a_op ?_
            refine s_nil (r_false ?_)
            refine q_loopF ((j + 1, true, true, s, [], ct)) (a_le ?_) ?_ ?_
            · refine le_same ?_ ?_ ?_ <;> simp [-List.map_set, -List.map_replicate, -List.reduceReplicate, -List.map_map, -List.map_drop, -List.map_take, num, bol, txt, w8, w16, w32, w64, lst, cls, rowO, boxO, List.take_of_length_le]
            · refine ⟨?_, ?_, ?_, ?_, ?_, ?_⟩ <;> simp only [] <;> first | omega | exact In4_nil | exact In4_snoc h4 hm4 | exact In4_snoc In4_nil hm4 | exact h4 | (simp; done) | (simp; omega) | (intro h; cases h) | (constructor <;> intro h <;> first | omega | rfl | cases h)
            · simp only []; omega
        · (try simp only [Bool.and_eq_true, Bool.or_eq_true, Bool.or_eq_false_iff, Bool.not_eq_true', Bool.not_eq_false', dec_t, dec_f, Bool.and_eq_false_imp, beq_iff_eq, beq_eq_false_iff_ne, ne_eq] at hc2)
          refine k_exit ?_
          refine q_seq_exit (q_loopF_exit (q_block_exit (q_next ?_)))
          refine k_seq ?_
          refine k_region rfl ?_
          refine a_op ?_
          refine a_callp [.r 2 2 0] [] [] false (rd_dnN Γ hE s k ct 0) ?_
          iterate 5 refine a_op ?_
          refine s_nil (r_false ?_)
          refine q_next ?_
          refine k_seq ?_
          refine k_region rfl ?_
          refine a_op ?_
          refine a_callp [.r 2 2 0] [] [] false (downN Γ s k ct true) ?_
          refine a_op ?_
          refine s_nil (r_false ?_)
          refine q_next ?_
          refine k_seq ?_
          refine k_region rfl ?_
          refine a_op ?_
          refine a_op ?_
          refine a_callp [.r 2 2 0] [] [] false (fallN Γ s k ct true 0 [] (by decide)) ?_
          refine s_nil (r_false ?_)
          refine q_next ?_
          refine k_seq ?_
          refine k_region rfl ?_
          refine a_op ?_
          refine a_callp [.r 2 2 0] [] [] false (rd_okN Γ s 0 0 0 (by omega)) ?_
          iterate 5 refine a_op ?_
          refine s_nil (r_false ?_)
          refine q_next ?_
          refine k_seq ?_
          refine k_region rfl ?_
          refine a_op ?_
          refine a_call [] false (num_good Γ 13) ?_
          refine a_op ?_
          refine a_op ?_
          refine a_go ?_
          refine a_op ?_
          refine a_op ?_
          refine a_go ?_
          refine a_callgo [] false (num_good Γ 0) ?_
          refine a_go ?_
          refine a_op ?_
          refine a_op ?_
          refine a_go ?_
          refine a_callpgo [.r 2 2 0] [] [] false (downN Γ s 0 0 false) ?_
          refine a_go ?_
          refine a_op ?_
          refine a_op ?_
          refine a_callgo [] false (awake_good Γ hE) ?_
          refine a_op ?_
          refine a_op ?_
          refine s_nil (r_false ?_)
          refine q_next ?_
          refine k_ret ?_
          refine ⟨.inr rfl, a_ret [] (by rw [results6]) ?_ ?_ ?_⟩ <;> simp [-List.map_set, -List.map_replicate, -List.reduceReplicate, -List.map_map, -List.map_drop, -List.map_take, num, bol, txt, w8, w16, w32, w64, lst, cls, rowO, boxO, List.take_of_length_le]
  · (try simp only [Bool.and_eq_true, Bool.or_eq_true, Bool.or_eq_false_iff, Bool.not_eq_true', Bool.not_eq_false', dec_t, dec_f, Bool.and_eq_false_imp, beq_iff_eq, beq_eq_false_iff_ne, ne_eq] at hc1)
    refine k_skip ?_
    refine q_next ?_
    refine k_seq ?_
    refine k_seq ?_
    refine k_region rfl ?_
    refine a_op ?_
    refine s_nil (r_false ?_)
    refine q_next ?_
    refine k_block ?_
    refine k_loopF (fun sl L (q : TQ) => ⟨setAll (setBad sl [0, 1, 6, 10, 16, 17, 18, 19, 20, 21, 22, 23, 24, 25, 26, 27, 28, 29, 30, 31, 32, 33, 34, 35, 36, 37, 38, 39, 40, 41, 42, 43, 44, 45, 46, 47, 48, 49, 50, 51, 52, 53, 54, 55, 56, 57, 58, 59, 60, 61, 62, 63, 64, 65, 66]) [(9, .t (num ((q.1 : Int) + 1)))], Go.Ot.look (putL (.r 2 2 0) (boxO 57 [.t (txt (q.2.2.2.1 0)), .t (txt (q.2.2.2.1 1)), .t (txt (q.2.2.2.1 2)), .t (txt (q.2.2.2.1 3)), loD q.2.1 (.r 14 3 0) q.2.2.2.2.1.length, .t (num (k)), .t (.v (.slice none 0 0)), .t (num (q.2.2.2.2.2)), .t (bol (q.2.2.1))]) (rowL q.2.1 (.r 14 3 0) q.2.2.2.2.1 L))⟩) (TI k) (fun q => 10 - q.1) ((0, true, false, (fun _ => []), [], 0)) (a_le ?_) ?_ ?_
    · refine le_same ?_ ?_ ?_ <;> simp [-List.map_set, -List.map_replicate, -List.reduceReplicate, -List.map_map, -List.map_drop, -List.map_take, num, bol, txt, w8, w16, w32, w64, lst, cls, rowO, boxO, List.take_of_length_le]
    · refine ⟨?_, ?_, ?_, ?_, ?_, ?_⟩ <;> simp only [] <;> first | omega | exact In4_nil | (simp; done) | (simp; omega)
    · rintro ⟨j, z, d, s, l, ct⟩ ⟨hj, hl', h4, hz, hd, hct⟩
      simp only at hj hl' h4 hz hd hct
      have hl : l.length ≤ 1000000 := by omega
      have h6 : (z = false ∧ d = false ∧ ct + 1 = (k : Int) ∧ ct = (j : Int) ∧ j < k) ∨ (z = false ∧ d = false ∧ ¬ ct + 1 = (k : Int) ∧ ct = (j : Int) ∧ j < k) ∨ (z = false ∧ d = true ∧ k ≤ j) ∨ (z = true ∧ l = [] ∧ d = false ∧ ct + 1 = (k : Int) ∧ ct = (j : Int) ∧ j < k) ∨ (z = true ∧ l = [] ∧ d = false ∧ ¬ ct + 1 = (k : Int) ∧ ct = (j : Int) ∧ j < k) ∨ (z = true ∧ l = [] ∧ d = true ∧ k ≤ j) := by
        rcases z with _ | _ <;> rcases d with _ | _ <;> rcases Decidable.em (ct + 1 = (k : Int)) with h | h <;> simp_all
      clear hz hd hct
      rcases h6 with ⟨rfl, rfl, h1, h2, h3⟩ | ⟨rfl, rfl, h1, h2, h3⟩ | ⟨rfl, rfl, h3⟩ | ⟨rfl, rfl, rfl, h1, h2, h3⟩ | ⟨rfl, rfl, rfl, h1, h2, h3⟩ | ⟨rfl, rfl, rfl, h3⟩
      · refine a_st ?_
        refine k_seq ?_
        refine k_seq ?_
        refine k_region rfl ?_
        refine a_op ?_
        refine a_op ?_
        refine s_nil (r_false ?_)
        refine q_next ?_
        refine a_if (fun hc2 => ?_) (fun hc2 => ?_)
        · (try simp only [Bool.and_eq_true, Bool.or_eq_true, Bool.or_eq_false_iff, Bool.not_eq_true', Bool.not_eq_false', dec_t, dec_f, Bool.and_eq_false_imp, beq_iff_eq, beq_eq_false_iff_ne, ne_eq] at hc2)
          refine k_skip ?_
          refine q_next ?_
          refine k_seq ?_
          refine k_block ?_
          refine k_seq ?_
          refine k_region rfl ?_
          refine a_op ?_
          refine s_nil (r_false ?_)
          refine q_next ?_
          refine k_seq ?_
          refine k_seq ?_
          refine k_region rfl ?_
          iterate 6 refine a_op ?_
          refine s_nil (r_false ?_)
          refine q_next ?_
          refine a_if (fun hc3 => ?_) (fun hc3 => ?_)
          · (try simp only [Bool.and_eq_true, Bool.or_eq_true, Bool.or_eq_false_iff, Bool.not_eq_true', Bool.not_eq_false', dec_t, dec_f, Bool.and_eq_false_imp, beq_iff_eq, beq_eq_false_iff_ne, ne_eq] at hc3)
            refine k_region rfl ?_
            refine a_op ?_
            refine a_callp [.r 2 2 0, .r 14 3 0] [] [.r 14 3 0] false (sy_lastR Γ hE s l hl h4 k ct (by omega) h1) ?_
            refine a_op ?_
            refine s_nil (r_false ?_)
            refine q_next ?_
            refine k_seq ?_
            refine k_region rfl ?_
            refine a_op ?_
            refine a_call [] false (num_good Γ 13) ?_
            iterate 6 refine a_op ?_
            refine a_go ?_
            refine a_callgo [] false (num_good Γ 13) ?_
            refine a_go ?_
            refine a_go ?_
            refine a_go ?_
            refine a_callgo [] false (num_good Γ 13) ?_
            refine a_go ?_
            refine a_go ?_
            refine a_op ?_
            refine s_nil (r_false ?_)
            refine q_next ?_
            refine a_false ?_
            refine k_skip ?_
            refine q_block (q_next ?_)
            refine k_region rfl ?_
            iterate 3 refine a_op ?_
            refine s_nil (r_false ?_)
            refine q_loopF ((j + 1, false, true, s, l, ct + 1)) (a_le ?_) ?_ ?_
            · refine le_same ?_ ?_ ?_ <;> simp [-List.map_set, -List.map_replicate, -List.reduceReplicate, -List.map_map, -List.map_drop, -List.map_take, num, bol, txt, w8, w16, w32, w64, lst, cls, rowO, boxO, List.take_of_length_le]
            · refine ⟨?_, ?_, ?_, ?_, ?_, ?_⟩ <;> simp only [] <;> first | omega | exact In4_nil | exact In4_snoc h4 hm4 | exact In4_snoc In4_nil hm4 | exact h4 | (simp; done) | (simp; omega) | (intro h; cases h) | (constructor <;> intro h <;> first | omega | rfl | cases h)
            · simp only []; omega
          · (try simp only [Bool.and_eq_true, Bool.or_eq_true, Bool.or_eq_false_iff, Bool.not_eq_true', Bool.not_eq_false', dec_t, dec_f, Bool.and_eq_false_imp, beq_iff_eq, beq_eq_false_iff_ne, ne_eq] at hc3)
            refine k_region rfl ?_
            obtain ⟨m, hm, hm4⟩ : ∃ m : Nat, ((j : Int) + 1) % 4 = (m : Int) ∧ m < 4 := ⟨(j + 1) % 4, by omega, by omega⟩
            refine a_op ?_
            refine a_op ?_
            refine a_op (hs := by (simp (disch := omega) only [push_cast, hm] <;> rfl)) ?_
            refine a_callp [.r 2 2 0, .r 14 3 0] [] [.r 14 3 0] false (wr_lastR Γ hE s l hl h4 k ct m [120] (by omega) (by omega) (by omega) h1) ?_
            refine a_op ?_
            refine s_nil (r_false ?_)
            refine q_next ?_
            refine k_seq ?_
            refine k_region rfl ?_
            refine a_op ?_
            refine a_call [] false (num_good Γ 13) ?_
            iterate 6 refine a_op ?_
            refine a_go ?_
            refine a_callgo [] false (num_good Γ 13) ?_
            refine a_go ?_
            refine a_go ?_
            refine a_go ?_
            refine a_callgo [] false (num_good Γ 13) ?_
            refine a_go ?_
            refine a_go ?_
            refine a_op ?_
            refine s_nil (r_false ?_)
            refine q_next ?_
            refine a_false ?_
            refine k_skip ?_
            refine q_block (q_next ?_)
            refine k_region rfl ?_
            iterate 3 refine a_op ?_
            refine s_nil (r_false ?_)
            refine q_loopF ((j + 1, false, true, s, l, ct + 1)) (a_le ?_) ?_ ?_
            · refine le_same ?_ ?_ ?_ <;> simp [-List.map_set, -List.map_replicate, -List.reduceReplicate, -List.map_map, -List.map_drop, -List.map_take, num, bol, txt, w8, w16, w32, w64, lst, cls, rowO, boxO, List.take_of_length_le]
            · refine ⟨?_, ?_, ?_, ?_, ?_, ?_⟩ <;> simp only [] <;> first | omega | exact In4_nil | exact In4_snoc h4 hm4 | exact In4_snoc In4_nil hm4 | exact h4 | (simp; done) | (simp; omega) | (intro h; cases h) | (constructor <;> intro h <;> first | omega | rfl | cases h)
            · simp only []; omega
        · (try simp only [Bool.and_eq_true, Bool.or_eq_true, Bool.or_eq_false_iff, Bool.not_eq_true', Bool.not_eq_false', dec_t, dec_f, Bool.and_eq_false_imp, beq_iff_eq, beq_eq_false_iff_ne, ne_eq] at hc2)
          exfalso; first | omega | cases hc2
      · refine a_st ?_
        refine k_seq ?_
        refine k_seq ?_
        refine k_region rfl ?_
        refine a_op ?_
        refine a_op ?_
        refine s_nil (r_false ?_)
        refine q_next ?_
        refine a_if (fun hc2 => ?_) (fun hc2 => ?_)
        · (try simp only [Bool.and_eq_true, Bool.or_eq_true, Bool.or_eq_false_iff, Bool.not_eq_true', Bool.not_eq_false', dec_t, dec_f, Bool.and_eq_false_imp, beq_iff_eq, beq_eq_false_iff_ne, ne_eq] at hc2)
          refine k_skip ?_
          refine q_next ?_
          refine k_seq ?_
          refine k_block ?_
          refine k_seq ?_
          refine k_region rfl ?_
          refine a_op ?_
          refine s_nil (r_false ?_)
          refine q_next ?_
          refine k_seq ?_
          refine k_seq ?_
          refine k_region rfl ?_
          iterate 6 refine a_op ?_
          refine s_nil (r_false ?_)
          refine q_next ?_
          refine a_if (fun hc3 => ?_) (fun hc3 => ?_)
          · (try simp only [Bool.and_eq_true, Bool.or_eq_true, Bool.or_eq_false_iff, Bool.not_eq_true', Bool.not_eq_false', dec_t, dec_f, Bool.and_eq_false_imp, beq_iff_eq, beq_eq_false_iff_ne, ne_eq] at hc3)
            refine k_region rfl ?_
            refine a_op ?_
            refine a_callp [.r 2 2 0, .r 14 3 0] [] [.r 14 3 0] false (sy_okR Γ s l hl h4 k ct (by omega) h1) ?_
            refine a_op ?_
            refine s_nil (r_false ?_)
            refine q_next ?_
            refine k_seq ?_
            refine k_region rfl ?_
            refine a_op ?_
            refine a_call [] false (num_good Γ 0) ?_
            iterate 6 refine a_op ?_
            refine a_go ?_
            refine a_callgo [] false (num_good Γ 0) ?_
            refine a_go ?_
            refine a_go ?_
            refine a_no ?_
            refine a_no ?_
            refine a_no ?_
            refine a_go ?_
            refine a_op ?_
            refine s_nil (r_false ?_)
            refine q_next ?_
            refine a_false ?_
            refine k_skip ?_
            refine q_block (q_next ?_)
            refine k_region rfl ?_
            iterate 3 refine a_op ?_
            refine s_nil (r_false ?_)
            refine q_loopF ((j + 1, true, false, nowF s l, [], ct + 1)) (a_le ?_) ?_ ?_
            · refine le_same ?_ ?_ ?_ <;> simp [-List.map_set, -List.map_replicate, -List.reduceReplicate, -List.map_map, -List.map_drop, -List.map_take, num, bol, txt, w8, w16, w32, w64, lst, cls, rowO, boxO, List.take_of_length_le]
            · refine ⟨?_, ?_, ?_, ?_, ?_, ?_⟩ <;> simp only [] <;> first | omega | exact In4_nil | exact In4_snoc h4 hm4 | exact In4_snoc In4_nil hm4 | exact h4 | (simp; done) | (simp; omega) | (intro h; cases h) | (constructor <;> intro h <;> first | omega | rfl | cases h)
            · simp only []; omega
          · (try simp only [Bool.and_eq_true, Bool.or_eq_true, Bool.or_eq_false_iff, Bool.not_eq_true', Bool.not_eq_false', dec_t, dec_f, Bool.and_eq_false_imp, beq_iff_eq, beq_eq_false_iff_ne, ne_eq] at hc3)
            refine k_region rfl ?_
            obtain ⟨m, hm, hm4⟩ : ∃ m : Nat, ((j : Int) + 1) % 4 = (m : Int) ∧ m < 4 := ⟨(j + 1) % 4, by omega, by omega⟩
            refine a_op ?_
            refine a_op ?_
            refine a_op (hs := by (simp (disch := omega) only [push_cast, hm] <;> rfl)) ?_
            refine a_callp [.r 2 2 0, .r 14 3 0] [] [.r 14 3 0] false (wr_okR Γ s l hl h4 k ct m [120] hm4 (by omega) h1) ?_
            refine a_op ?_
            refine s_nil (r_false ?_)
            refine q_next ?_
            refine k_seq ?_
            refine k_region rfl ?_
            refine a_op ?_
            refine a_call [] false (num_good Γ 0) ?_
            iterate 6 refine a_op ?_
            refine a_go ?_
            refine a_callgo [] false (num_good Γ 0) ?_
            refine a_go ?_
            refine a_go ?_
            refine a_no ?_
            refine a_no ?_
            refine a_no ?_
            refine a_go ?_
            refine a_op ?_
            refine s_nil (r_false ?_)
            refine q_next ?_
            refine a_false ?_
            refine k_skip ?_
            refine q_block (q_next ?_)
            refine k_region rfl ?_
            iterate 3 refine a_op ?_
            refine s_nil (r_false ?_)
            refine q_loopF ((j + 1, false, false, s, l ++ [(m, [120])], ct + 1)) (a_le ?_) ?_ ?_
            · refine le_same ?_ ?_ ?_ <;> simp [-List.map_set, -List.map_replicate, -List.reduceReplicate, -List.map_map, -List.map_drop, -List.map_take, num, bol, txt, w8, w16, w32, w64, lst, cls, rowO, boxO, List.take_of_length_le]
            · refine ⟨?_, ?_, ?_, ?_, ?_, ?_⟩ <;> simp only [] <;> first | omega | exact In4_nil | exact In4_snoc h4 hm4 | exact In4_snoc In4_nil hm4 | exact h4 | (simp; done) | (simp; omega) | (intro h; cases h) | (constructor <;> intro h <;> first | omega | rfl | cases h)
            · simp only []; omega
        · (try simp only [Bool.and_eq_true, Bool.or_eq_true, Bool.or_eq_false_iff, Bool.not_eq_true', Bool.not_eq_false', dec_t, dec_f, Bool.and_eq_false_imp, beq_iff_eq, beq_eq_false_iff_ne, ne_eq] at hc2)
          exfalso; first | omega | cases hc2
      · refine a_st ?_
        refine k_seq ?_
        refine k_seq ?_
        refine k_region rfl ?_
        refine a_op ?_
        refine a_op ?_
        refine s_nil (r_false ?_)
        refine q_next ?_
        refine a_if (fun hc2 => ?_) (fun hc2 => ?_)
        · (try simp only [Bool.and_eq_true, Bool.or_eq_true, Bool.or_eq_false_iff, Bool.not_eq_true', Bool.not_eq_false', dec_t, dec_f, Bool.and_eq_false_imp, beq_iff_eq, beq_eq_false_iff_ne, ne_eq] at hc2)
          refine k_skip ?_
          refine q_next ?_
          refine k_seq ?_
          refine k_block ?_
          refine k_seq ?_
          refine k_region rfl ?_
          refine a_op ?_
          refine s_nil (r_false ?_)
          refine q_next ?_
          refine k_seq ?_
          refine k_seq ?_
          refine k_region rfl ?_
          iterate 6 refine a_op ?_
          refine s_nil (r_false ?_)
          refine q_next ?_
          refine a_if (fun hc3 => ?_) (fun hc3 => ?_)
          · (try simp only [Bool.and_eq_true, Bool.or_eq_true, Bool.or_eq_false_iff, Bool.not_eq_true', Bool.not_eq_false', dec_t, dec_f, Bool.and_eq_false_imp, beq_iff_eq, beq_eq_false_iff_ne, ne_eq] at hc3)
            refine k_region rfl ?_
            refine a_op ?_
            refine a_callp [.r 2 2 0, .r 14 3 0] [] [.r 14 3 0] false (sy_dnR Γ hE s l hl h4 k ct ) ?_
            refine a_op ?_
            refine s_nil (r_false ?_)
            refine q_next ?_
            refine k_seq ?_
            refine k_region rfl ?_
            refine a_op ?_
            refine a_call [] false (num_good Γ 13) ?_
            iterate 6 refine a_op ?_
            refine a_go ?_
            refine a_callgo [] false (num_good Γ 13) ?_
            refine a_go ?_
            refine a_go ?_
            refine a_go ?_
            refine a_callgo [] false (num_good Γ 13) ?_
            refine a_go ?_
            refine a_go ?_
            refine a_op ?_
            refine s_nil (r_false ?_)
            refine q_next ?_
            refine a_false ?_
            refine k_skip ?_
            refine q_block (q_next ?_)
            refine k_region rfl ?_
            iterate 3 refine a_op ?_
            refine s_nil (r_false ?_)
            refine q_loopF ((j + 1, false, true, s, l, ct)) (a_le ?_) ?_ ?_
            · refine le_same ?_ ?_ ?_ <;> simp [-List.map_set, -List.map_replicate, -List.reduceReplicate, -List.map_map, -List.map_drop, -List.map_take, num, bol, txt, w8, w16, w32, w64, lst, cls, rowO, boxO, List.take_of_length_le]
            · refine ⟨?_, ?_, ?_, ?_, ?_, ?_⟩ <;> simp only [] <;> first | omega | exact In4_nil | exact In4_snoc h4 hm4 | exact In4_snoc In4_nil hm4 | exact h4 | (simp; done) | (simp; omega) | (intro h; cases h) | (constructor <;> intro h <;> first | omega | rfl | cases h)
            · simp only []; omega
          · (try simp only [Bool.and_eq_true, Bool.or_eq_true, Bool.or_eq_false_iff, Bool.not_eq_true', Bool.not_eq_false', dec_t, dec_f, Bool.and_eq_false_imp, beq_iff_eq, beq_eq_false_iff_ne, ne_eq] at hc3)
            refine k_region rfl ?_
            obtain ⟨m, hm, hm4⟩ : ∃ m : Nat, ((j : Int) + 1) % 4 = (m : Int) ∧ m < 4 := ⟨(j + 1) % 4, by omega, by omega⟩
            refine a_op ?_
            refine a_op ?_
            refine a_op (hs := by (simp (disch := omega) only [push_cast, hm] <;> rfl)) ?_
            refine a_callp [.r 2 2 0, .r 14 3 0] [] [.r 14 3 0] false (wr_dnR Γ hE s l hl h4 k ct m [120]) ?_
            refine a_op ?_
            refine s_nil (r_false ?_)
            refine q_next ?_
            refine k_seq ?_
            refine k_region rfl ?_
            refine a_op ?_
            refine a_call [] false (num_good Γ 13) ?_
            iterate 6 refine a_op ?_
            refine a_go ?_
            refine a_callgo [] false (num_good Γ 13) ?_
            refine a_go ?_
            refine a_go ?_
            refine a_go ?_
            refine a_callgo [] false (num_good Γ 13) ?_
            refine a_go ?_
            refine a_go ?_
            refine a_op ?_
            refine s_nil (r_false ?_)
            refine q_next ?_
            refine a_false ?_
            refine k_skip ?_
            refine q_block (q_next ?_)
            refine k_region rfl ?_
            iterate 3 refine a_op ?_
            refine s_nil (r_false ?_)
            refine q_loopF ((j + 1, false, true, s, l, ct)) (a_le ?_) ?_ ?_
            · refine le_same ?_ ?_ ?_ <;> simp [-List.map_set, -List.map_replicate, -List.reduceReplicate, -List.map_map, -List.map_drop, -List.map_take, num, bol, txt, w8, w16, w32, w64, lst, cls, rowO, boxO, List.take_of_length_le]
            · refine ⟨?_, ?_, ?_, ?_, ?_, ?_⟩ <;> simp only [] <;> first | omega | exact In4_nil | exact In4_snoc h4 hm4 | exact In4_snoc In4_nil hm4 | exact h4 | (simp; done) | (simp; omega) | (intro h; cases h) | (constructor <;> intro h <;> first | omega | rfl | cases h)
            · simp only []; omega
        · (try simp only [Bool.and_eq_true, Bool.or_eq_true, Bool.or_eq_false_iff, Bool.not_eq_true', Bool.not_eq_false', dec_t, dec_f, Bool.and_eq_false_imp, beq_iff_eq, beq_eq_false_iff_ne, ne_eq] at hc2)
          refine k_exit ?_
          refine q_seq_exit (q_loopF_exit (q_block_exit (q_next ?_)))
          refine k_seq ?_
          refine k_region rfl ?_
          refine a_op ?_
          refine a_callp [.r 2 2 0, .r 14 3 0] [] [.r 14 3 0] false (rd_dnR Γ hE s l hl h4 k ct 0) ?_
          iterate 5 refine a_op ?_
          refine s_nil (r_false ?_)
          refine q_next ?_
          refine k_seq ?_
          refine k_region rfl ?_
          refine a_op ?_
          refine a_callp [.r 2 2 0, .r 14 3 0] [] [.r 14 3 0] false (downR Γ s l hl h4 k ct true) ?_
          refine a_op ?_
          refine s_nil (r_false ?_)
          refine q_next ?_
          refine k_seq ?_
          refine k_region rfl ?_
          refine a_op ?_
          refine a_op ?_
          refine a_callp [.r 2 2 0, .r 14 3 0] [] [.r 14 3 0] false (fallR Γ s l hl h4 k ct true 0 [] (by decide)) ?_
          refine s_nil (r_false ?_)
          refine q_next ?_
          refine k_seq ?_
          refine k_region rfl ?_
          refine a_op ?_
          refine a_callp [.r 2 2 0] [] [] false (rd_okN Γ (fallF s l [] l.length) 0 0 0 (by omega)) ?_
          iterate 5 refine a_op ?_
          refine s_nil (r_false ?_)
          refine q_next ?_
          refine k_seq ?_
          refine k_region rfl ?_
          refine a_op ?_
          refine a_call [] false (num_good Γ 13) ?_
          refine a_op ?_
          refine a_op ?_
          refine a_go ?_
          refine a_op ?_
          refine a_op ?_
          refine a_go ?_
          refine a_callgo [] false (num_good Γ 0) ?_
          refine a_go ?_
          refine a_op ?_
          refine a_op ?_
          refine a_go ?_
          refine a_callpgo [.r 2 2 0] [] [] false (downN Γ (fallF s l [] l.length) 0 0 false) ?_
          refine a_go ?_
          refine a_op ?_
          refine a_op ?_
          refine a_callgo [] false (awake_good Γ hE) ?_
          refine a_op ?_
          refine a_op ?_
          refine s_nil (r_false ?_)
          refine q_next ?_
          refine k_ret ?_
          refine ⟨.inr rfl, a_ret [] (by rw [results6]) ?_ ?_ ?_⟩ <;> simp [-List.map_set, -List.map_replicate, -List.reduceReplicate, -List.map_map, -List.map_drop, -List.map_take, num, bol, txt, w8, w16, w32, w64, lst, cls, rowO, boxO, List.take_of_length_le]
      · refine a_st ?_
        refine k_seq ?_
        refine k_seq ?_
        refine k_region rfl ?_
        refine a_op ?_
        refine a_op ?_
        refine s_nil (r_false ?_)
        refine q_next ?_
        refine a_if (fun hc2 => ?_) (fun hc2 => ?_)
        · (try simp only [Bool.and_eq_true, Bool.or_eq_true, Bool.or_eq_false_iff, Bool.not_eq_true', Bool.not_eq_false', dec_t, dec_f, Bool.and_eq_false_imp, beq_iff_eq, beq_eq_false_iff_ne, ne_eq] at hc2)
          refine k_skip ?_
          refine q_next ?_
          refine k_seq ?_
          refine k_block ?_
          refine k_seq ?_
          refine k_region rfl ?_
          refine a_op ?_
          refine s_nil (r_false ?_)
          refine q_next ?_
          refine k_seq ?_
          refine k_seq ?_
          refine k_region rfl ?_
          iterate 6 refine a_op ?_
          refine s_nil (r_false ?_)
          refine q_next ?_
          refine a_if (fun hc3 => ?_) (fun hc3 => ?_)
          · (try simp only [Bool.and_eq_true, Bool.or_eq_true, Bool.or_eq_false_iff, Bool.not_eq_true', Bool.not_eq_false', dec_t, dec_f, Bool.and_eq_false_imp, beq_iff_eq, beq_eq_false_iff_ne, ne_eq] at hc3)
            refine k_region rfl ?_
            refine a_op ?_
            refine a_callp [.r 2 2 0] [] [] false (sy_lastN Γ hE s k ct (by omega) h1) ?_
            refine a_op ?_
            refine s_nil (r_false ?_)
            refine q_next ?_
            refine k_seq ?_
            refine k_region rfl ?_
            refine a_op ?_
            refine a_call [] false (num_good Γ 13) ?_
            iterate 6 refine a_op ?_
            refine a_go ?_
            refine a_callgo [] false (num_good Γ 13) ?_
            refine a_go ?_
            refine a_go ?_
            refine a_go ?_
            refine a_callgo [] false (num_good Γ 13) ?_
            refine a_go ?_
            refine a_go ?_
            refine a_op ?_
            refine s_nil (r_false ?_)
            refine q_next ?_
            refine a_false ?_
            refine k_skip ?_
            refine q_block (q_next ?_)
            refine k_region rfl ?_
            iterate 3 refine a_op ?_
            refine s_nil (r_false ?_)
            refine q_loopF ((j + 1, true, true, s, [], ct + 1)) (a_le ?_) ?_ ?_
            · refine le_same ?_ ?_ ?_ <;> simp [-List.map_set, -List.map_replicate, -List.reduceReplicate, -List.map_map, -List.map_drop, -List.map_take, num, bol, txt, w8, w16, w32, w64, lst, cls, rowO, boxO, List.take_of_length_le]
            · refine ⟨?_, ?_, ?_, ?_, ?_, ?_⟩ <;> simp only [] <;> first | omega | exact In4_nil | exact In4_snoc h4 hm4 | exact In4_snoc In4_nil hm4 | exact h4 | (simp; done) | (simp; omega) | (intro h; cases h) | (constructor <;> intro h <;> first | omega | rfl | cases h)
            · simp only []; omega
          · (try simp only [Bool.and_eq_true, Bool.or_eq_true, Bool.or_eq_false_iff, Bool.not_eq_true', Bool.not_eq_false', dec_t, dec_f, Bool.and_eq_false_imp, beq_iff_eq, beq_eq_false_iff_ne, ne_eq] at hc3)
            refine k_region rfl ?_
            obtain ⟨m, hm, hm4⟩ : ∃ m : Nat, ((j : Int) + 1) % 4 = (m : Int) ∧ m < 4 := ⟨(j + 1) % 4, by omega, by omega⟩
            refine a_op ?_
            refine a_op ?_
            refine a_op (hs := by (simp (disch := omega) only [push_cast, hm] <;> rfl)) ?_
            refine a_callp [.r 2 2 0] [] [] false (wr_lastN Γ hE s k ct m [120] (by omega) (by omega) (by omega) h1) ?_
            refine a_op ?_
            refine s_nil (r_false ?_)
            refine q_next ?_
            refine k_seq ?_
            refine k_region rfl ?_
            refine a_op ?_
            refine a_call [] false (num_good Γ 13) ?_
            iterate 6 refine a_op ?_
            refine a_go ?_
            refine a_callgo [] false (num_good Γ 13) ?_
            refine a_go ?_
            refine a_go ?_
            refine a_go ?_
            refine a_callgo [] false (num_good Γ 13) ?_
            refine a_go ?_
            refine a_go ?_
            refine a_op ?_
            refine s_nil (r_false ?_)
            refine q_next ?_
            refine a_false ?_
            refine k_skip ?_
            refine q_block (q_next ?_)
            refine k_region rfl ?_
            iterate 3 refine a_op ?_
            refine s_nil (r_false ?_)
            refine q_loopF ((j + 1, true, true, s, [], ct + 1)) (a_le ?_) ?_ ?_
            · refine le_same ?_ ?_ ?_ <;> simp [-List.map_set, -List.map_replicate, -List.reduceReplicate, -List.map_map, -List.map_drop, -List.map_take, num, bol, txt, w8, w16, w32, w64, lst, cls, rowO, boxO, List.take_of_length_le]
            · refine ⟨?_, ?_, ?_, ?_, ?_, ?_⟩ <;> simp only [] <;> first | omega | exact In4_nil | exact In4_snoc h4 hm4 | exact In4_snoc In4_nil hm4 | exact h4 | (simp; done) | (simp; omega) | (intro h; cases h) | (constructor <;> intro h <;> first | omega | rfl | cases h)
            · simp only []; omega
        · (try simp only [Bool.and_eq_true, Bool.or_eq_true, Bool.or_eq_false_iff, Bool.not_eq_true', Bool.not_eq_false', dec_t, dec_f, Bool.and_eq_false_imp, beq_iff_eq, beq_eq_false_iff_ne, ne_eq] at hc2)
          exfalso; first | omega | cases hc2
      · refine a_st ?_
        refine k_seq ?_
        refine k_seq ?_
        refine k_region rfl ?_
        refine a_op ?_
        refine a_op ?_
        refine s_nil (r_false ?_)
        refine q_next ?_
        refine a_if (fun hc2 => ?_) (fun hc2 => ?_)
        · (try simp only [Bool.and_eq_true, Bool.or_eq_true, Bool.or_eq_false_iff, Bool.not_eq_true', Bool.not_eq_false', dec_t, dec_f, Bool.and_eq_false_imp, beq_iff_eq, beq_eq_false_iff_ne, ne_eq] at hc2)
          refine k_skip ?_
          refine q_next ?_
          refine k_seq ?_
          refine k_block ?_
          refine k_seq ?_
          refine k_region rfl ?_
          refine a_op ?_
          refine s_nil (r_false ?_)
          refine q_next ?_
          refine k_seq ?_
          refine k_seq ?_
          refine k_region rfl ?_
          iterate 6 refine a_op ?_
          refine s_nil (r_false ?_)
          refine q_next ?_
          refine a_if (fun hc3 => ?_) (fun hc3 => ?_)
          · (try simp only [Bool.and_eq_true, Bool.or_eq_true, Bool.or_eq_false_iff, Bool.not_eq_true', Bool.not_eq_false', dec_t, dec_f, Bool.and_eq_false_imp, beq_iff_eq, beq_eq_false_iff_ne, ne_eq] at hc3)
            refine k_region rfl ?_
            refine a_op ?_
            refine a_callp [.r 2 2 0] [] [] false (sy_okN Γ s k ct (by omega) h1) ?_
            refine a_op ?_
            refine s_nil (r_false ?_)
            refine q_next ?_
            refine k_seq ?_
            refine k_region rfl ?_
            refine a_op ?_
            refine a_call [] false (num_good Γ 0) ?_
            iterate 6 refine a_op ?_
            refine a_go ?_
            refine a_callgo [] false (num_good Γ 0) ?_
            refine a_go ?_
            refine a_go ?_
            refine a_no ?_
            refine a_no ?_
            refine a_no ?_
            refine a_go ?_
            refine a_op ?_
            refine s_nil (r_false ?_)
            refine q_next ?_
            refine a_false ?_
            refine k_skip ?_
            refine q_block (q_next ?_)
            refine k_region rfl ?_
            iterate 3 refine a_op ?_
            refine s_nil (r_false ?_)
            refine q_loopF ((j + 1, true, false, s, [], ct + 1)) (a_le ?_) ?_ ?_
            · refine le_same ?_ ?_ ?_ <;> simp [-List.map_set, -List.map_replicate, -List.reduceReplicate, -List.map_map, -List.map_drop, -List.map_take, num, bol, txt, w8, w16, w32, w64, lst, cls, rowO, boxO, List.take_of_length_le]
            · refine ⟨?_, ?_, ?_, ?_, ?_, ?_⟩ <;> simp only [] <;> first | omega | exact In4_nil | exact In4_snoc h4 hm4 | exact In4_snoc In4_nil hm4 | exact h4 | (simp; done) | (simp; omega) | (intro h; cases h) | (constructor <;> intro h <;> first | omega | rfl | cases h)
            · simp only []; omega
          · (try simp only [Bool.and_eq_true, Bool.or_eq_true, Bool.or_eq_false_iff, Bool.not_eq_true', Bool.not_eq_false', dec_t, dec_f, Bool.and_eq_false_imp, beq_iff_eq, beq_eq_false_iff_ne, ne_eq] at hc3)
            refine k_region rfl ?_
            obtain ⟨m, hm, hm4⟩ : ∃ m : Nat, ((j : Int) + 1) % 4 = (m : Int) ∧ m < 4 := ⟨(j + 1) % 4, by omega, by omega⟩
            refine a_op ?_
            refine a_op ?_
            refine a_op (hs := by (simp (disch := omega) only [push_cast, hm] <;> rfl)) ?_
            refine a_callp [.r 2 2 0] [] [] false (wr_okN Γ s k ct m [120] hm4 (by omega) h1) ?_
            refine a_op ?_
            refine s_nil (r_false ?_)
            refine q_next ?_
            refine k_seq ?_
            refine k_region rfl ?_
            refine a_op ?_
            refine a_call [] false (num_good Γ 0) ?_
            iterate 6 refine a_op ?_
            refine a_go ?_
            refine a_callgo [] false (num_good Γ 0) ?_
            refine a_go ?_
            refine a_go ?_
            refine a_no ?_
            refine a_no ?_
            refine a_no ?_
            refine a_go ?_
            refine a_op ?_
            refine s_nil (r_false ?_)
            refine q_next ?_
            refine a_false ?_
            refine k_skip ?_
            refine q_block (q_next ?_)
            refine k_region rfl ?_
            iterate 3 refine a_op ?_
            refine s_nil (r_false ?_)
            refine q_loopF ((j + 1, false, false, s, [(m, [120])], ct + 1)) (a_le ?_) ?_ ?_
            · refine le_same ?_ ?_ ?_ <;> simp [-List.map_set, -List.map_replicate, -List.reduceReplicate, -List.map_map, -List.map_drop, -List.map_take, num, bol, txt, w8, w16, w32, w64, lst, cls, rowO, boxO, List.take_of_length_le]
            · refine ⟨?_, ?_, ?_, ?_, ?_, ?_⟩ <;> simp only [] <;> first | omega | exact In4_nil | exact In4_snoc h4 hm4 | exact In4_snoc In4_nil hm4 | exact h4 | (simp; done) | (simp; omega) | (intro h; cases h) | (constructor <;> intro h <;> first | omega | rfl | cases h)
            · simp only []; omega
        · (try simp only [Bool.and_eq_true, Bool.or_eq_true, Bool.or_eq_false_iff, Bool.not_eq_true', Bool.not_eq_false', dec_t, dec_f, Bool.and_eq_false_imp, beq_iff_eq, beq_eq_false_iff_ne, ne_eq] at hc2)
          exfalso; first | omega | cases hc2
      · refine a_st ?_
        refine k_seq ?_
        refine k_seq ?_
        refine k_region rfl ?_
        refine a_op ?_
        refine a_op ?_
        refine s_nil (r_false ?_)
        refine q_next ?_
        refine a_if (fun hc2 => ?_) (fun hc2 => ?_)
        · (try simp only [Bool.and_eq_true, Bool.or_eq_true, Bool.or_eq_false_iff, Bool.not_eq_true', Bool.not_eq_false', dec_t, dec_f, Bool.and_eq_false_imp, beq_iff_eq, beq_eq_false_iff_ne, ne_eq] at hc2)
          refine k_skip ?_
          refine q_next ?_
          refine k_seq ?_
          refine k_block ?_
          refine k_seq ?_
          refine k_region rfl ?_
          refine a_op ?_
          refine s_nil (r_false ?_)
          refine q_next ?_
          refine k_seq ?_
          refine k_seq ?_
          refine k_region rfl ?_
          iterate 6 refine a_op ?_
          refine s_nil (r_false ?_)
          refine q_next ?_
          refine a_if (fun hc3 => ?_) (fun hc3 => ?_)
          · (try simp only [Bool.and_eq_true, Bool.or_eq_true, Bool.or_eq_false_iff, Bool.not_eq_true', Bool.not_eq_false', dec_t, dec_f, Bool.and_eq_false_imp, beq_iff_eq, beq_eq_false_iff_ne, ne_eq] at hc3)
            refine k_region rfl ?_
            refine a_op ?_
            refine a_callp [.r 2 2 0] [] [] false (sy_dnN Γ hE s k ct ) ?_
            refine a_op ?_
            refine s_nil (r_false ?_)
            refine q_next ?_
            refine k_seq ?_
            refine k_region rfl ?_
            refine a_op ?_
            refine a_call [] false (num_good Γ 13) ?_
            iterate 6 refine a_op ?_
            refine a_go ?_
            refine a_callgo [] false (num_good Γ 13) ?_
            refine a_go ?_
            refine a_go ?_
            refine a_go ?_
            refine a_callgo [] false (num_good Γ 13) ?_
            refine a_go ?_
            refine a_go ?_
            refine a_op ?_
            refine s_nil (r_false ?_)
            refine q_next ?_
            refine a_false ?_
            refine k_skip ?_
            refine q_block (q_next ?_)
            refine k_region rfl ?_
            iterate 3 refine a_op ?_
            refine s_nil (r_false ?_)
            refine q_loopF ((j + 1, true, true, s, [], ct)) (a_le ?_) ?_ ?_
            · refine le_same ?_ ?_ ?_ <;> simp [-List.map_set, -List.map_replicate, -List.reduceReplicate, -List.map_map, -List.map_drop, -List.map_take, num, bol, txt, w8, w16, w32, w64, lst, cls, rowO, boxO, List.take_of_length_le]
            · refine ⟨?_, ?_, ?_, ?_, ?_, ?_⟩ <;> simp only [] <;> first | omega | exact In4_nil | exact In4_snoc h4 hm4 | exact In4_snoc In4_nil hm4 | exact h4 | (simp; done) | (simp; omega) | (intro h; cases h) | (constructor <;> intro h <;> first | omega | rfl | cases h)
            · simp only []; omega
          · (try simp only [Bool.and_eq_true, Bool.or_eq_true, Bool.or_eq_false_iff, Bool.not_eq_true', Bool.not_eq_false', dec_t, dec_f, Bool.and_eq_false_imp, beq_iff_eq, beq_eq_false_iff_ne, ne_eq] at hc3)
            refine k_region rfl ?_
            obtain ⟨m, hm, hm4⟩ : ∃ m : Nat, ((j : Int) + 1) % 4 = (m : Int) ∧ m < 4 := ⟨(j + 1) % 4, by omega, by omega⟩
            refine a_op ?_
            refine a_op ?_
            refine a_op (hs := by (simp (disch := omega) only [push_cast, hm] <;> rfl)) ?_
            refine a_callp [.r 2 2 0] [] [] false (wr_dnN Γ hE s k ct m [120]) ?_
            refine a_op ?_
            refine s_nil (r_false ?_)
            refine q_next ?_
            refine k_seq ?_
            refine k_region rfl ?_
            refine a_op ?_
            refine a_call [] false (num_good Γ 13) ?_
            iterate 6 refine a_op ?_
            refine a_go ?_
            refine a_callgo [] false (num_good Γ 13) ?_
            refine a_go ?_
            refine a_go ?_
            refine a_go ?_
            refine a_callgo [] false (num_good Γ 13) ?_
            refine a_go ?_
            refine a_go ?_
            refine a_op ?_
            refine s_nil (r_false ?_)
            refine q_next ?_
            refine a_false ?_
            refine k_skip ?_
            refine q_block (q_next ?_)
            refine k_region rfl ?_
            iterate 3 refine a_op ?_
            refine s_nil (r_false ?_)
            refine q_loopF ((j + 1, true, true, s, [], ct)) (a_le ?_) ?_ ?_
            · refine le_same ?_ ?_ ?_ <;> simp [-List.map_set, -List.map_replicate, -List.reduceReplicate, -List.map_map, -List.map_drop, -List.map_take, num, bol, txt, w8, w16, w32, w64, lst, cls, rowO, boxO, List.take_of_length_le]
            · refine ⟨?_, ?_, ?_, ?_, ?_, ?_⟩ <;> simp only [] <;> first | omega | exact In4_nil | exact In4_snoc h4 hm4 | exact In4_snoc In4_nil hm4 | exact h4 | (simp; done) | (simp; omega) | (intro h; cases h) | (constructor <;> intro h <;> first | omega | rfl | cases h)
            · simp only []; omega
        · (try simp only [Bool.and_eq_true, Bool.or_eq_true, Bool.or_eq_false_iff, Bool.not_eq_true', Bool.not_eq_false', dec_t, dec_f, Bool.and_eq_false_imp, beq_iff_eq, beq_eq_false_iff_ne, ne_eq] at hc2)
          refine k_exit ?_
          refine q_seq_exit (q_loopF_exit (q_block_exit (q_next ?_)))
          refine k_seq ?_
          refine k_region rfl ?_
          refine a_op ?_
          refine a_callp [.r 2 2 0] [] [] false (rd_dnN Γ hE s k ct 0) ?_
          iterate 5 refine a_op ?_
          refine s_nil (r_false ?_)
          refine q_next ?_
          refine k_seq ?_
          refine k_region rfl ?_
          refine a_op ?_
          refine a_callp [.r 2 2 0] [] [] false (downN Γ s k ct true) ?_
          refine a_op ?_
          refine s_nil (r_false ?_)
          refine q_next ?_
          refine k_seq ?_
          refine k_region rfl ?_
          refine a_op ?_
          refine a_op ?_
          refine a_callp [.r 2 2 0] [] [] false (fallN Γ s k ct true 0 [] (by decide)) ?_
          refine s_nil (r_false ?_)
          refine q_next ?_
          refine k_seq ?_
          refine k_region rfl ?_
          refine a_op ?_
          refine a_callp [.r 2 2 0] [] [] false (rd_okN Γ s 0 0 0 (by omega)) ?_
          iterate 5 refine a_op ?_
          refine s_nil (r_false ?_)
          refine q_next ?_
          refine k_seq ?_
          refine k_region rfl ?_
          refine a_op ?_
          refine a_call [] false (num_good Γ 13) ?_
          refine a_op ?_
          refine a_op ?_
          refine a_go ?_
          refine a_op ?_
          refine a_op ?_
          refine a_go ?_
          refine a_callgo [] false (num_good Γ 0) ?_
          refine a_go ?_
          refine a_op ?_
          refine a_op ?_
          refine a_go ?_
          refine a_callpgo [.r 2 2 0] [] [] false (downN Γ s 0 0 false) ?_
          refine a_go ?_
          refine a_op ?_
          refine a_op ?_
          refine a_callgo [] false (awake_good Γ hE) ?_
          refine a_op ?_
          refine a_op ?_
          refine s_nil (r_false ?_)
          refine q_next ?_
          refine k_ret ?_
          refine ⟨.inr rfl, a_ret [] (by rw [results6]) ?_ ?_ ?_⟩ <;> simp [-List.map_set, -List.map_replicate, -List.reduceReplicate, -List.map_map, -List.map_drop, -List.map_take, num, bol, txt, w8, w16, w32, w64, lst, cls, rowO, boxO, List.take_of_length_le]

end Go.Proofs.Tryd
