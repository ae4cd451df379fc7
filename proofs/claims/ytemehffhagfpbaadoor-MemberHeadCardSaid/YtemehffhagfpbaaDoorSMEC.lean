/- Contracts of this program's functions. -/
import Derived.Test.YtemehffhagfpbaaDoorSMEA
import Derived.Test.YtemehffhagfpbaaDoorSME9
set_option maxHeartbeats 4000000
set_option maxRecDepth 100000
set_option linter.unusedVariables false
set_option linter.unusedSimpArgs false
namespace Go.Proofs.Tryd
open Go Go.Ot
attribute [local irreducible] wpK wpS seqK blockK loopF regK meetK OpSpec Le rdS lpW rdW got mayS mayW putS putW nb u64 PutW mwB sha rcF hdF hsh RG inF chC fl lkT grR
theorem head_law_good (Γ : Gl) (hE : EG Γ) (a b : Rc) (n : UInt8) (hla : a.wraps.length ≤ 9223372036854775807) (hlb : b.wraps.length ≤ 9223372036854775807) : Go.Ot.Good Γ prog 5 [.agg [.t (num a.seq), .t (txt a.prev), .t (num a.kind), .t (num a.dev), .t (.sl a.wraps.length (a.wraps.flatMap wpT)), .t (txt a.tag)], .agg [.t (num b.seq), .t (txt b.prev), .t (num b.kind), .t (num b.dev), .t (.sl b.wraps.length (b.wraps.flatMap wpT)), .t (txt b.tag)], .t (w8 n)] [] (.t (bol true)) [] [] := by
  refine a_body F.mix func5 (by rfl) ntmps5 ?_
  refine k_seq ?_
  refine k_region rfl ?_
  iterate 3 refine a_op ?_
  refine s_nil (r_false ?_)
  refine q_next ?_
  refine k_seq ?_
  refine k_seq ?_
  refine k_region rfl ?_
  have h4 : grR a = true ∨ (grR a = false ∧ grR b = true) ∨ (grR a = false ∧ grR b = false ∧ ¬ rcP a) ∨ (grR a = false ∧ grR b = false ∧ rcP a ∧ ¬ rcP b) ∨ (grR a = false ∧ grR b = false ∧ rcP a ∧ rcP b) := by
    rcases grR a with _ | _ <;> rcases grR b with _ | _ <;> by_cases hb : rcP a <;> by_cases hp : rcP b <;> simp [hb, hp]
  rcases h4 with ga | ⟨ga, gb⟩ | ⟨ga, gb, hpa⟩ | ⟨ga, gb, hpa, hpb⟩ | ⟨ga, gb, hpa, hpb⟩
  · skip
    refine a_op ?_
    refine a_call [] false ((by have h := great_good Γ a hla; rw [ga] at h; exact h)) ?_
    refine a_op ?_
    refine a_no ?_
    refine a_no ?_
    refine a_op ?_
    refine a_op ?_
    refine a_no ?_
    refine a_no ?_
    refine a_no ?_
    refine a_op ?_
    refine a_op ?_
    refine a_no ?_
    refine a_no ?_
    refine a_no ?_
    refine a_op ?_
    refine s_nil (r_false ?_)
    refine q_next ?_
    refine a_true ?_
    refine k_seq ?_
    refine k_region rfl ?_
    refine a_call [] false (awake_good Γ hE) ?_
    refine a_op ?_
    refine s_nil (r_false ?_)
    refine q_next ?_
    refine k_ret ?_
    refine q_seq_ret ?_
    refine ⟨.inr rfl, a_ret [] (by rw [results5]) ?_ ?_ ?_⟩ <;> simp [-List.map_set, -List.map_replicate, -List.reduceReplicate, -List.map_map, -List.map_drop, -List.map_take, num, bol, txt, w8, w16, w32, w64, lst, cls, rowO, boxO, List.take_of_length_le, Wr.cellsL_len, wA, Wr.k_mk, Wr.n_mk, Wr.s_mk, Wr.l_mk, Wr.cellsL, Wr.z_eq, rcT, wpT]
  · skip
    refine a_op ?_
    refine a_call [] false ((by have h := great_good Γ a hla; rw [ga] at h; exact h)) ?_
    refine a_op ?_
    refine a_go ?_
    refine a_callgo [] false ((by have h := great_good Γ b hlb; rw [gb] at h; exact h)) ?_
    refine a_op ?_
    refine a_op ?_
    refine a_no ?_
    refine a_no ?_
    refine a_no ?_
    refine a_op ?_
    refine a_op ?_
    refine a_no ?_
    refine a_no ?_
    refine a_no ?_
    refine a_op ?_
    refine s_nil (r_false ?_)
    refine q_next ?_
    refine a_true ?_
    refine k_seq ?_
    refine k_region rfl ?_
    refine a_call [] false (awake_good Γ hE) ?_
    refine a_op ?_
    refine s_nil (r_false ?_)
    refine q_next ?_
    refine k_ret ?_
    refine q_seq_ret ?_
    refine ⟨.inr rfl, a_ret [] (by rw [results5]) ?_ ?_ ?_⟩ <;> simp [-List.map_set, -List.map_replicate, -List.reduceReplicate, -List.map_map, -List.map_drop, -List.map_take, num, bol, txt, w8, w16, w32, w64, lst, cls, rowO, boxO, List.take_of_length_le, Wr.cellsL_len, wA, Wr.k_mk, Wr.n_mk, Wr.s_mk, Wr.l_mk, Wr.cellsL, Wr.z_eq, rcT, wpT]
  · skip
    refine a_op ?_
    refine a_call [] false ((by have h := great_good Γ a hla; rw [ga] at h; exact h)) ?_
    refine a_op ?_
    refine a_go ?_
    refine a_callgo [] false ((by have h := great_good Γ b hlb; rw [gb] at h; exact h)) ?_
    refine a_op ?_
    refine a_op ?_
    refine a_go ?_
    refine a_callgo [] false ((by have h := rmayR_good Γ a hla; rw [rcB_f hpa] at h; exact h)) ?_
    refine a_go ?_
    refine a_op ?_
    refine a_op ?_
    refine a_no ?_
    refine a_no ?_
    refine a_no ?_
    refine a_op ?_
    refine s_nil (r_false ?_)
    refine q_next ?_
    refine a_true ?_
    refine k_seq ?_
    refine k_region rfl ?_
    refine a_call [] false (awake_good Γ hE) ?_
    refine a_op ?_
    refine s_nil (r_false ?_)
    refine q_next ?_
    refine k_ret ?_
    refine q_seq_ret ?_
    refine ⟨.inr rfl, a_ret [] (by rw [results5]) ?_ ?_ ?_⟩ <;> simp [-List.map_set, -List.map_replicate, -List.reduceReplicate, -List.map_map, -List.map_drop, -List.map_take, num, bol, txt, w8, w16, w32, w64, lst, cls, rowO, boxO, List.take_of_length_le, Wr.cellsL_len, wA, Wr.k_mk, Wr.n_mk, Wr.s_mk, Wr.l_mk, Wr.cellsL, Wr.z_eq, rcT, wpT]
  · skip
    refine a_op ?_
    refine a_call [] false ((by have h := great_good Γ a hla; rw [ga] at h; exact h)) ?_
    refine a_op ?_
    refine a_go ?_
    refine a_callgo [] false ((by have h := great_good Γ b hlb; rw [gb] at h; exact h)) ?_
    refine a_op ?_
    refine a_op ?_
    refine a_go ?_
    refine a_callgo [] false ((by have h := rmayR_good Γ a hla; rw [rcB_t hpa] at h; exact h)) ?_
    refine a_go ?_
    refine a_op ?_
    refine a_op ?_
    refine a_go ?_
    refine a_callgo [] false ((by have h := rmayR_good Γ b hlb; rw [rcB_f hpb] at h; exact h)) ?_
    refine a_go ?_
    refine a_op ?_
    refine s_nil (r_false ?_)
    refine q_next ?_
    refine a_true ?_
    refine k_seq ?_
    refine k_region rfl ?_
    refine a_call [] false (awake_good Γ hE) ?_
    refine a_op ?_
    refine s_nil (r_false ?_)
    refine q_next ?_
    refine k_ret ?_
    refine q_seq_ret ?_
    refine ⟨.inr rfl, a_ret [] (by rw [results5]) ?_ ?_ ?_⟩ <;> simp [-List.map_set, -List.map_replicate, -List.reduceReplicate, -List.map_map, -List.map_drop, -List.map_take, num, bol, txt, w8, w16, w32, w64, lst, cls, rowO, boxO, List.take_of_length_le, Wr.cellsL_len, wA, Wr.k_mk, Wr.n_mk, Wr.s_mk, Wr.l_mk, Wr.cellsL, Wr.z_eq, rcT, wpT]
  · skip
    refine a_op ?_
    refine a_call [] false ((by have h := great_good Γ a hla; rw [ga] at h; exact h)) ?_
    refine a_op ?_
    refine a_go ?_
    refine a_callgo [] false ((by have h := great_good Γ b hlb; rw [gb] at h; exact h)) ?_
    refine a_op ?_
    refine a_op ?_
    refine a_go ?_
    refine a_callgo [] false ((by have h := rmayR_good Γ a hla; rw [rcB_t hpa] at h; exact h)) ?_
    refine a_go ?_
    refine a_op ?_
    refine a_op ?_
    refine a_go ?_
    refine a_callgo [] false ((by have h := rmayR_good Γ b hlb; rw [rcB_t hpb] at h; exact h)) ?_
    refine a_go ?_
    refine a_op ?_
    refine s_nil (r_false ?_)
    refine q_next ?_
    refine a_false ?_
    refine k_skip ?_
    refine q_next ?_
    refine k_seq ?_
    refine k_region rfl ?_
    iterate 3 refine a_op ?_
    refine s_nil (r_false ?_)
    refine q_next ?_
    refine k_seq ?_
    refine k_region rfl ?_
    iterate 4 refine a_op ?_
    refine s_nil (r_false ?_)
    refine q_next ?_
    refine k_seq ?_
    refine k_region rfl ?_
    iterate 4 refine a_op ?_
    refine s_nil (r_false ?_)
    refine q_next ?_
    refine k_seq ?_
    refine k_region rfl ?_
    have h5 : (a.seq ≠ b.seq) ∨ (a.seq = b.seq ∧ (a.prev == b.prev) = false) ∨ (a.seq = b.seq ∧ (a.prev == b.prev) = true ∧ a.kind ≠ b.kind) ∨ (a.seq = b.seq ∧ (a.prev == b.prev) = true ∧ a.kind = b.kind ∧ a.dev ≠ b.dev) ∨ (a.seq = b.seq ∧ (a.prev == b.prev) = true ∧ a.kind = b.kind ∧ a.dev = b.dev) := by
      rcases (a.prev == b.prev) with _ | _ <;> simp <;> omega
    rcases h5 with h1 | ⟨h1, h2⟩ | ⟨h1, h2, h3⟩ | ⟨h1, h2, h3, h4⟩ | ⟨h1, h2, h3, h4⟩
    · have hab : (hdF a == hdF b) = false := beq_eq_false_iff_ne.2 (fun e => by have e := (hdF_inj hpa hpb).1 e; exact h1 e.1)
      iterate 6 refine a_op ?_
      refine a_no ?_
      refine a_no ?_
      refine a_no ?_
      refine a_no ?_
      refine a_no ?_
      refine a_op ?_
      refine a_op ?_
      refine a_no ?_
      refine a_no ?_
      refine a_no ?_
      refine a_no ?_
      refine a_no ?_
      refine a_op ?_
      refine a_op ?_
      refine a_no ?_
      refine a_no ?_
      refine a_no ?_
      refine a_no ?_
      refine a_no ?_
      refine a_op ?_
      refine a_op ?_
      refine s_nil (r_false ?_)
      refine q_next ?_
      refine k_seq ?_
      refine k_region rfl ?_
      iterate 3 refine a_op ?_
      refine s_nil (r_false ?_)
      refine q_next ?_
      refine k_seq ?_
      refine k_region rfl ?_
      have hn8 := n.toNat_lt
      obtain ⟨da1, da2⟩ := hpa.2.2.2.2.1
      obtain ⟨dd, hdd, hd1, hd2, hd3⟩ : ∃ dd : Int, (a.dev + 1 + (n.toNat : Int) % 7) % 8 = dd ∧ 0 ≤ dd ∧ dd < 8 ∧ dd ≠ a.dev := ⟨_, rfl, by omega, by omega, by omega⟩
      have hdt : (a.dev + 1 + (n.toNat : Int) % 7).tmod 8 = dd := by rw [Int.tmod_eq_emod_of_nonneg (by omega)]; exact hdd
      iterate 7 refine a_op ?_
      refine a_op (hs := by (simp (disch := first | omega | (simp only [List.length_drop, List.length_take, List.length_map, List.length_append, List.length_cons, List.length_nil, List.length_replicate, List.length_set] <;> omega) | (simp only [push_cast] <;> omega) | fail) only [push_cast, reduceCtorEq, Nat.reduceAdd, Nat.reduceSub, Nat.reduceMul, Nat.reduceEqDiff, Nat.reduceLT, Nat.reduceLeDiff, Nat.reduceMod, Nat.reduceDiv, Int.reduceLE, Int.reduceLT, Int.reduceEq, Int.reduceToNat, Int.reduceAdd, Int.reduceSub, Int.reduceMul, Int.reduceNeg, hdd, hdt] <;> rfl)) ?_
      refine a_op ?_
      refine a_op ?_
      refine s_nil (r_false ?_)
      refine q_next ?_
      refine k_seq ?_
      refine k_region rfl ?_
      have hpc : rcP (⟨a.seq, a.prev, a.kind, a.dev, b.wraps, b.tag⟩ : Rc) := ⟨hpa.1, hpa.2.1, hpa.2.2.1, hpa.2.2.2.1, hpa.2.2.2.2.1, hpb.2.2.2.2.2.1, hpb.2.2.2.2.2.2⟩
      have hpd : rcP (⟨a.seq, a.prev, a.kind, dd, a.wraps, a.tag⟩ : Rc) := ⟨hpa.1, hpa.2.1, hpa.2.2.1, hpa.2.2.2.1, ⟨hd1, hd2⟩, hpa.2.2.2.2.2.1, hpa.2.2.2.2.2.2⟩
      have hac : (hdF a == hdF (⟨a.seq, a.prev, a.kind, a.dev, b.wraps, b.tag⟩ : Rc)) = true := beq_iff_eq.2 ((hdF_inj hpa hpc).2 ⟨rfl, rfl, rfl, rfl⟩)
      have had : (hdF a == hdF (⟨a.seq, a.prev, a.kind, dd, a.wraps, a.tag⟩ : Rc)) = false := beq_eq_false_iff_ne.2 (fun e => hd3 ((hdF_inj hpa hpd).1 e).2.2.2.symm)
      have hae : (hdF a == []) = false := beq_nil_ne (hd_ne hpa)
      refine a_opd ?_
      refine a_calld [] false (head_good Γ a hla) ?_
      refine a_opd ?_
      refine a_calld [] false (head_good Γ (⟨a.seq, a.prev, a.kind, a.dev, b.wraps, b.tag⟩ : Rc) hlb) ?_
      refine a_opd (hs := by (simp (disch := first | omega | (simp only [List.length_drop, List.length_take, List.length_map, List.length_append, List.length_cons, List.length_nil, List.length_replicate, List.length_set] <;> omega) | (simp only [push_cast] <;> omega) | fail) only [push_cast, reduceCtorEq, Nat.reduceAdd, Nat.reduceSub, Nat.reduceMul, Nat.reduceEqDiff, Nat.reduceLT, Nat.reduceLeDiff, Nat.reduceMod, Nat.reduceDiv, Int.reduceLE, Int.reduceLT, Int.reduceEq, Int.reduceToNat, Int.reduceAdd, Int.reduceSub, Int.reduceMul, Int.reduceNeg, hac] <;> rfl)) ?_
      refine a_opd ?_
      refine a_god ?_
      refine a_callgod [] false (head_good Γ a hla) ?_
      refine a_god ?_
      refine a_callgod [] false (head_good Γ b hlb) ?_
      refine a_god (hs := by (simp (disch := first | omega | (simp only [List.length_drop, List.length_take, List.length_map, List.length_append, List.length_cons, List.length_nil, List.length_replicate, List.length_set] <;> omega) | (simp only [push_cast] <;> omega) | fail) only [push_cast, reduceCtorEq, Nat.reduceAdd, Nat.reduceSub, Nat.reduceMul, Nat.reduceEqDiff, Nat.reduceLT, Nat.reduceLeDiff, Nat.reduceMod, Nat.reduceDiv, Int.reduceLE, Int.reduceLT, Int.reduceEq, Int.reduceToNat, Int.reduceAdd, Int.reduceSub, Int.reduceMul, Int.reduceNeg, hab] <;> rfl)) ?_
      refine a_god ?_
      refine a_god ?_
      refine a_opd ?_
      refine a_opd ?_
      refine a_god ?_
      refine a_callgod [] false (head_good Γ a hla) ?_
      refine a_god ?_
      refine a_callgod [] false (head_good Γ (⟨a.seq, a.prev, a.kind, dd, a.wraps, a.tag⟩ : Rc) hla) ?_
      refine a_god (hs := by (simp (disch := first | omega | (simp only [List.length_drop, List.length_take, List.length_map, List.length_append, List.length_cons, List.length_nil, List.length_replicate, List.length_set] <;> omega) | (simp only [push_cast] <;> omega) | fail) only [push_cast, reduceCtorEq, Nat.reduceAdd, Nat.reduceSub, Nat.reduceMul, Nat.reduceEqDiff, Nat.reduceLT, Nat.reduceLeDiff, Nat.reduceMod, Nat.reduceDiv, Int.reduceLE, Int.reduceLT, Int.reduceEq, Int.reduceToNat, Int.reduceAdd, Int.reduceSub, Int.reduceMul, Int.reduceNeg, had] <;> rfl)) ?_
      refine a_opd ?_
      refine a_opd ?_
      refine a_god ?_
      refine a_callgod [] false (head_good Γ a hla) ?_
      refine a_god (hs := by (simp (disch := first | omega | (simp only [List.length_drop, List.length_take, List.length_map, List.length_append, List.length_cons, List.length_nil, List.length_replicate, List.length_set] <;> omega) | (simp only [push_cast] <;> omega) | fail) only [push_cast, reduceCtorEq, Nat.reduceAdd, Nat.reduceSub, Nat.reduceMul, Nat.reduceEqDiff, Nat.reduceLT, Nat.reduceLeDiff, Nat.reduceMod, Nat.reduceDiv, Int.reduceLE, Int.reduceLT, Int.reduceEq, Int.reduceToNat, Int.reduceAdd, Int.reduceSub, Int.reduceMul, Int.reduceNeg, hae] <;> rfl)) ?_
      refine a_opd ?_
      refine a_opd ?_
      refine a_callgod [] false (awake_good Γ hE) ?_
      refine a_opd ?_
      refine a_opd ?_
      refine s_nil (r_true (by kernel_rfl) ?_)
      refine q_next ?_
      refine k_ret ?_
      refine ⟨.inr rfl, a_ret [] (by rw [results5]) ?_ ?_ ?_⟩ <;> simp [-List.map_set, -List.map_replicate, -List.reduceReplicate, -List.map_map, -List.map_drop, -List.map_take, num, bol, txt, w8, w16, w32, w64, lst, cls, rowO, boxO, List.take_of_length_le, Wr.cellsL_len, wA, Wr.k_mk, Wr.n_mk, Wr.s_mk, Wr.l_mk, Wr.cellsL, Wr.z_eq, rcT, wpT]
    · have hab : (hdF a == hdF b) = false := beq_eq_false_iff_ne.2 (fun e => by have e := (hdF_inj hpa hpb).1 e; rw [e.2.1] at h2; simp at h2)
      iterate 6 refine a_op ?_
      refine a_go ?_
      refine a_go ?_
      refine a_go ?_
      refine a_go ?_
      refine a_go (hs := by (simp (disch := first | omega | (simp only [List.length_drop, List.length_take, List.length_map, List.length_append, List.length_cons, List.length_nil, List.length_replicate, List.length_set] <;> omega) | (simp only [push_cast] <;> omega) | fail) only [push_cast, reduceCtorEq, Nat.reduceAdd, Nat.reduceSub, Nat.reduceMul, Nat.reduceEqDiff, Nat.reduceLT, Nat.reduceLeDiff, Nat.reduceMod, Nat.reduceDiv, Int.reduceLE, Int.reduceLT, Int.reduceEq, Int.reduceToNat, Int.reduceAdd, Int.reduceSub, Int.reduceMul, Int.reduceNeg, h2] <;> rfl)) ?_
      refine a_op ?_
      refine a_op ?_
      refine a_no ?_
      refine a_no ?_
      refine a_no ?_
      refine a_no ?_
      refine a_no ?_
      refine a_op ?_
      refine a_op ?_
      refine a_no ?_
      refine a_no ?_
      refine a_no ?_
      refine a_no ?_
      refine a_no ?_
      refine a_op ?_
      refine a_op ?_
      refine s_nil (r_false ?_)
      refine q_next ?_
      refine k_seq ?_
      refine k_region rfl ?_
      iterate 3 refine a_op ?_
      refine s_nil (r_false ?_)
      refine q_next ?_
      refine k_seq ?_
      refine k_region rfl ?_
      have hn8 := n.toNat_lt
      obtain ⟨da1, da2⟩ := hpa.2.2.2.2.1
      obtain ⟨dd, hdd, hd1, hd2, hd3⟩ : ∃ dd : Int, (a.dev + 1 + (n.toNat : Int) % 7) % 8 = dd ∧ 0 ≤ dd ∧ dd < 8 ∧ dd ≠ a.dev := ⟨_, rfl, by omega, by omega, by omega⟩
      have hdt : (a.dev + 1 + (n.toNat : Int) % 7).tmod 8 = dd := by rw [Int.tmod_eq_emod_of_nonneg (by omega)]; exact hdd
      iterate 7 refine a_op ?_
      refine a_op (hs := by (simp (disch := first | omega | (simp only [List.length_drop, List.length_take, List.length_map, List.length_append, List.length_cons, List.length_nil, List.length_replicate, List.length_set] <;> omega) | (simp only [push_cast] <;> omega) | fail) only [push_cast, reduceCtorEq, Nat.reduceAdd, Nat.reduceSub, Nat.reduceMul, Nat.reduceEqDiff, Nat.reduceLT, Nat.reduceLeDiff, Nat.reduceMod, Nat.reduceDiv, Int.reduceLE, Int.reduceLT, Int.reduceEq, Int.reduceToNat, Int.reduceAdd, Int.reduceSub, Int.reduceMul, Int.reduceNeg, hdd, hdt] <;> rfl)) ?_
      refine a_op ?_
      refine a_op ?_
      refine s_nil (r_false ?_)
      refine q_next ?_
      refine k_seq ?_
      refine k_region rfl ?_
      have hpc : rcP (⟨a.seq, a.prev, a.kind, a.dev, b.wraps, b.tag⟩ : Rc) := ⟨hpa.1, hpa.2.1, hpa.2.2.1, hpa.2.2.2.1, hpa.2.2.2.2.1, hpb.2.2.2.2.2.1, hpb.2.2.2.2.2.2⟩
      have hpd : rcP (⟨a.seq, a.prev, a.kind, dd, a.wraps, a.tag⟩ : Rc) := ⟨hpa.1, hpa.2.1, hpa.2.2.1, hpa.2.2.2.1, ⟨hd1, hd2⟩, hpa.2.2.2.2.2.1, hpa.2.2.2.2.2.2⟩
      have hac : (hdF a == hdF (⟨a.seq, a.prev, a.kind, a.dev, b.wraps, b.tag⟩ : Rc)) = true := beq_iff_eq.2 ((hdF_inj hpa hpc).2 ⟨rfl, rfl, rfl, rfl⟩)
      have had : (hdF a == hdF (⟨a.seq, a.prev, a.kind, dd, a.wraps, a.tag⟩ : Rc)) = false := beq_eq_false_iff_ne.2 (fun e => hd3 ((hdF_inj hpa hpd).1 e).2.2.2.symm)
      have hae : (hdF a == []) = false := beq_nil_ne (hd_ne hpa)
      refine a_opd ?_
      refine a_calld [] false (head_good Γ a hla) ?_
      refine a_opd ?_
      refine a_calld [] false (head_good Γ (⟨a.seq, a.prev, a.kind, a.dev, b.wraps, b.tag⟩ : Rc) hlb) ?_
      refine a_opd (hs := by (simp (disch := first | omega | (simp only [List.length_drop, List.length_take, List.length_map, List.length_append, List.length_cons, List.length_nil, List.length_replicate, List.length_set] <;> omega) | (simp only [push_cast] <;> omega) | fail) only [push_cast, reduceCtorEq, Nat.reduceAdd, Nat.reduceSub, Nat.reduceMul, Nat.reduceEqDiff, Nat.reduceLT, Nat.reduceLeDiff, Nat.reduceMod, Nat.reduceDiv, Int.reduceLE, Int.reduceLT, Int.reduceEq, Int.reduceToNat, Int.reduceAdd, Int.reduceSub, Int.reduceMul, Int.reduceNeg, hac] <;> rfl)) ?_
      refine a_opd ?_
      refine a_god ?_
      refine a_callgod [] false (head_good Γ a hla) ?_
      refine a_god ?_
      refine a_callgod [] false (head_good Γ b hlb) ?_
      refine a_god (hs := by (simp (disch := first | omega | (simp only [List.length_drop, List.length_take, List.length_map, List.length_append, List.length_cons, List.length_nil, List.length_replicate, List.length_set] <;> omega) | (simp only [push_cast] <;> omega) | fail) only [push_cast, reduceCtorEq, Nat.reduceAdd, Nat.reduceSub, Nat.reduceMul, Nat.reduceEqDiff, Nat.reduceLT, Nat.reduceLeDiff, Nat.reduceMod, Nat.reduceDiv, Int.reduceLE, Int.reduceLT, Int.reduceEq, Int.reduceToNat, Int.reduceAdd, Int.reduceSub, Int.reduceMul, Int.reduceNeg, hab] <;> rfl)) ?_
      refine a_god ?_
      refine a_god ?_
      refine a_opd ?_
      refine a_opd ?_
      refine a_god ?_
      refine a_callgod [] false (head_good Γ a hla) ?_
      refine a_god ?_
      refine a_callgod [] false (head_good Γ (⟨a.seq, a.prev, a.kind, dd, a.wraps, a.tag⟩ : Rc) hla) ?_
      refine a_god (hs := by (simp (disch := first | omega | (simp only [List.length_drop, List.length_take, List.length_map, List.length_append, List.length_cons, List.length_nil, List.length_replicate, List.length_set] <;> omega) | (simp only [push_cast] <;> omega) | fail) only [push_cast, reduceCtorEq, Nat.reduceAdd, Nat.reduceSub, Nat.reduceMul, Nat.reduceEqDiff, Nat.reduceLT, Nat.reduceLeDiff, Nat.reduceMod, Nat.reduceDiv, Int.reduceLE, Int.reduceLT, Int.reduceEq, Int.reduceToNat, Int.reduceAdd, Int.reduceSub, Int.reduceMul, Int.reduceNeg, had] <;> rfl)) ?_
      refine a_opd ?_
      refine a_opd ?_
      refine a_god ?_
      refine a_callgod [] false (head_good Γ a hla) ?_
      refine a_god (hs := by (simp (disch := first | omega | (simp only [List.length_drop, List.length_take, List.length_map, List.length_append, List.length_cons, List.length_nil, List.length_replicate, List.length_set] <;> omega) | (simp only [push_cast] <;> omega) | fail) only [push_cast, reduceCtorEq, Nat.reduceAdd, Nat.reduceSub, Nat.reduceMul, Nat.reduceEqDiff, Nat.reduceLT, Nat.reduceLeDiff, Nat.reduceMod, Nat.reduceDiv, Int.reduceLE, Int.reduceLT, Int.reduceEq, Int.reduceToNat, Int.reduceAdd, Int.reduceSub, Int.reduceMul, Int.reduceNeg, hae] <;> rfl)) ?_
      refine a_opd ?_
      refine a_opd ?_
      refine a_callgod [] false (awake_good Γ hE) ?_
      refine a_opd ?_
      refine a_opd ?_
      refine s_nil (r_true (by kernel_rfl) ?_)
      refine q_next ?_
      refine k_ret ?_
      refine ⟨.inr rfl, a_ret [] (by rw [results5]) ?_ ?_ ?_⟩ <;> simp [-List.map_set, -List.map_replicate, -List.reduceReplicate, -List.map_map, -List.map_drop, -List.map_take, num, bol, txt, w8, w16, w32, w64, lst, cls, rowO, boxO, List.take_of_length_le, Wr.cellsL_len, wA, Wr.k_mk, Wr.n_mk, Wr.s_mk, Wr.l_mk, Wr.cellsL, Wr.z_eq, rcT, wpT]
    · have hab : (hdF a == hdF b) = false := beq_eq_false_iff_ne.2 (fun e => by have e := (hdF_inj hpa hpb).1 e; exact h3 e.2.2.1)
      iterate 6 refine a_op ?_
      refine a_go ?_
      refine a_go ?_
      refine a_go ?_
      refine a_go ?_
      refine a_go (hs := by (simp (disch := first | omega | (simp only [List.length_drop, List.length_take, List.length_map, List.length_append, List.length_cons, List.length_nil, List.length_replicate, List.length_set] <;> omega) | (simp only [push_cast] <;> omega) | fail) only [push_cast, reduceCtorEq, Nat.reduceAdd, Nat.reduceSub, Nat.reduceMul, Nat.reduceEqDiff, Nat.reduceLT, Nat.reduceLeDiff, Nat.reduceMod, Nat.reduceDiv, Int.reduceLE, Int.reduceLT, Int.reduceEq, Int.reduceToNat, Int.reduceAdd, Int.reduceSub, Int.reduceMul, Int.reduceNeg, h2] <;> rfl)) ?_
      refine a_op ?_
      refine a_op ?_
      refine a_go ?_
      refine a_go ?_
      refine a_go ?_
      refine a_go ?_
      refine a_go ?_
      refine a_op ?_
      refine a_op ?_
      refine a_no ?_
      refine a_no ?_
      refine a_no ?_
      refine a_no ?_
      refine a_no ?_
      refine a_op ?_
      refine a_op ?_
      refine s_nil (r_false ?_)
      refine q_next ?_
      refine k_seq ?_
      refine k_region rfl ?_
      iterate 3 refine a_op ?_
      refine s_nil (r_false ?_)
      refine q_next ?_
      refine k_seq ?_
      refine k_region rfl ?_
      have hn8 := n.toNat_lt
      obtain ⟨da1, da2⟩ := hpa.2.2.2.2.1
      obtain ⟨dd, hdd, hd1, hd2, hd3⟩ : ∃ dd : Int, (a.dev + 1 + (n.toNat : Int) % 7) % 8 = dd ∧ 0 ≤ dd ∧ dd < 8 ∧ dd ≠ a.dev := ⟨_, rfl, by omega, by omega, by omega⟩
      have hdt : (a.dev + 1 + (n.toNat : Int) % 7).tmod 8 = dd := by rw [Int.tmod_eq_emod_of_nonneg (by omega)]; exact hdd
      iterate 7 refine a_op ?_
      refine a_op (hs := by (simp (disch := first | omega | (simp only [List.length_drop, List.length_take, List.length_map, List.length_append, List.length_cons, List.length_nil, List.length_replicate, List.length_set] <;> omega) | (simp only [push_cast] <;> omega) | fail) only [push_cast, reduceCtorEq, Nat.reduceAdd, Nat.reduceSub, Nat.reduceMul, Nat.reduceEqDiff, Nat.reduceLT, Nat.reduceLeDiff, Nat.reduceMod, Nat.reduceDiv, Int.reduceLE, Int.reduceLT, Int.reduceEq, Int.reduceToNat, Int.reduceAdd, Int.reduceSub, Int.reduceMul, Int.reduceNeg, hdd, hdt] <;> rfl)) ?_
      refine a_op ?_
      refine a_op ?_
      refine s_nil (r_false ?_)
      refine q_next ?_
      refine k_seq ?_
      refine k_region rfl ?_
      have hpc : rcP (⟨a.seq, a.prev, a.kind, a.dev, b.wraps, b.tag⟩ : Rc) := ⟨hpa.1, hpa.2.1, hpa.2.2.1, hpa.2.2.2.1, hpa.2.2.2.2.1, hpb.2.2.2.2.2.1, hpb.2.2.2.2.2.2⟩
      have hpd : rcP (⟨a.seq, a.prev, a.kind, dd, a.wraps, a.tag⟩ : Rc) := ⟨hpa.1, hpa.2.1, hpa.2.2.1, hpa.2.2.2.1, ⟨hd1, hd2⟩, hpa.2.2.2.2.2.1, hpa.2.2.2.2.2.2⟩
      have hac : (hdF a == hdF (⟨a.seq, a.prev, a.kind, a.dev, b.wraps, b.tag⟩ : Rc)) = true := beq_iff_eq.2 ((hdF_inj hpa hpc).2 ⟨rfl, rfl, rfl, rfl⟩)
      have had : (hdF a == hdF (⟨a.seq, a.prev, a.kind, dd, a.wraps, a.tag⟩ : Rc)) = false := beq_eq_false_iff_ne.2 (fun e => hd3 ((hdF_inj hpa hpd).1 e).2.2.2.symm)
      have hae : (hdF a == []) = false := beq_nil_ne (hd_ne hpa)
      refine a_opd ?_
      refine a_calld [] false (head_good Γ a hla) ?_
      refine a_opd ?_
      refine a_calld [] false (head_good Γ (⟨a.seq, a.prev, a.kind, a.dev, b.wraps, b.tag⟩ : Rc) hlb) ?_
      refine a_opd (hs := by (simp (disch := first | omega | (simp only [List.length_drop, List.length_take, List.length_map, List.length_append, List.length_cons, List.length_nil, List.length_replicate, List.length_set] <;> omega) | (simp only [push_cast] <;> omega) | fail) only [push_cast, reduceCtorEq, Nat.reduceAdd, Nat.reduceSub, Nat.reduceMul, Nat.reduceEqDiff, Nat.reduceLT, Nat.reduceLeDiff, Nat.reduceMod, Nat.reduceDiv, Int.reduceLE, Int.reduceLT, Int.reduceEq, Int.reduceToNat, Int.reduceAdd, Int.reduceSub, Int.reduceMul, Int.reduceNeg, hac] <;> rfl)) ?_
      refine a_opd ?_
      refine a_god ?_
      refine a_callgod [] false (head_good Γ a hla) ?_
      refine a_god ?_
      refine a_callgod [] false (head_good Γ b hlb) ?_
      refine a_god (hs := by (simp (disch := first | omega | (simp only [List.length_drop, List.length_take, List.length_map, List.length_append, List.length_cons, List.length_nil, List.length_replicate, List.length_set] <;> omega) | (simp only [push_cast] <;> omega) | fail) only [push_cast, reduceCtorEq, Nat.reduceAdd, Nat.reduceSub, Nat.reduceMul, Nat.reduceEqDiff, Nat.reduceLT, Nat.reduceLeDiff, Nat.reduceMod, Nat.reduceDiv, Int.reduceLE, Int.reduceLT, Int.reduceEq, Int.reduceToNat, Int.reduceAdd, Int.reduceSub, Int.reduceMul, Int.reduceNeg, hab] <;> rfl)) ?_
      refine a_god ?_
      refine a_god ?_
      refine a_opd ?_
      refine a_opd ?_
      refine a_god ?_
      refine a_callgod [] false (head_good Γ a hla) ?_
      refine a_god ?_
      refine a_callgod [] false (head_good Γ (⟨a.seq, a.prev, a.kind, dd, a.wraps, a.tag⟩ : Rc) hla) ?_
      refine a_god (hs := by (simp (disch := first | omega | (simp only [List.length_drop, List.length_take, List.length_map, List.length_append, List.length_cons, List.length_nil, List.length_replicate, List.length_set] <;> omega) | (simp only [push_cast] <;> omega) | fail) only [push_cast, reduceCtorEq, Nat.reduceAdd, Nat.reduceSub, Nat.reduceMul, Nat.reduceEqDiff, Nat.reduceLT, Nat.reduceLeDiff, Nat.reduceMod, Nat.reduceDiv, Int.reduceLE, Int.reduceLT, Int.reduceEq, Int.reduceToNat, Int.reduceAdd, Int.reduceSub, Int.reduceMul, Int.reduceNeg, had] <;> rfl)) ?_
      refine a_opd ?_
      refine a_opd ?_
      refine a_god ?_
      refine a_callgod [] false (head_good Γ a hla) ?_
      refine a_god (hs := by (simp (disch := first | omega | (simp only [List.length_drop, List.length_take, List.length_map, List.length_append, List.length_cons, List.length_nil, List.length_replicate, List.length_set] <;> omega) | (simp only [push_cast] <;> omega) | fail) only [push_cast, reduceCtorEq, Nat.reduceAdd, Nat.reduceSub, Nat.reduceMul, Nat.reduceEqDiff, Nat.reduceLT, Nat.reduceLeDiff, Nat.reduceMod, Nat.reduceDiv, Int.reduceLE, Int.reduceLT, Int.reduceEq, Int.reduceToNat, Int.reduceAdd, Int.reduceSub, Int.reduceMul, Int.reduceNeg, hae] <;> rfl)) ?_
      refine a_opd ?_
      refine a_opd ?_
      refine a_callgod [] false (awake_good Γ hE) ?_
      refine a_opd ?_
      refine a_opd ?_
      refine s_nil (r_true (by kernel_rfl) ?_)
      refine q_next ?_
      refine k_ret ?_
      refine ⟨.inr rfl, a_ret [] (by rw [results5]) ?_ ?_ ?_⟩ <;> simp [-List.map_set, -List.map_replicate, -List.reduceReplicate, -List.map_map, -List.map_drop, -List.map_take, num, bol, txt, w8, w16, w32, w64, lst, cls, rowO, boxO, List.take_of_length_le, Wr.cellsL_len, wA, Wr.k_mk, Wr.n_mk, Wr.s_mk, Wr.l_mk, Wr.cellsL, Wr.z_eq, rcT, wpT]
    · have hab : (hdF a == hdF b) = false := beq_eq_false_iff_ne.2 (fun e => by have e := (hdF_inj hpa hpb).1 e; exact h4 e.2.2.2)
      iterate 6 refine a_op ?_
      refine a_go ?_
      refine a_go ?_
      refine a_go ?_
      refine a_go ?_
      refine a_go (hs := by (simp (disch := first | omega | (simp only [List.length_drop, List.length_take, List.length_map, List.length_append, List.length_cons, List.length_nil, List.length_replicate, List.length_set] <;> omega) | (simp only [push_cast] <;> omega) | fail) only [push_cast, reduceCtorEq, Nat.reduceAdd, Nat.reduceSub, Nat.reduceMul, Nat.reduceEqDiff, Nat.reduceLT, Nat.reduceLeDiff, Nat.reduceMod, Nat.reduceDiv, Int.reduceLE, Int.reduceLT, Int.reduceEq, Int.reduceToNat, Int.reduceAdd, Int.reduceSub, Int.reduceMul, Int.reduceNeg, h2] <;> rfl)) ?_
      refine a_op ?_
      refine a_op ?_
      refine a_go ?_
      refine a_go ?_
      refine a_go ?_
      refine a_go ?_
      refine a_go ?_
      refine a_op ?_
      refine a_op ?_
      refine a_go ?_
      refine a_go ?_
      refine a_go ?_
      refine a_go ?_
      refine a_go ?_
      refine a_op ?_
      refine a_op ?_
      refine s_nil (r_false ?_)
      refine q_next ?_
      refine k_seq ?_
      refine k_region rfl ?_
      iterate 3 refine a_op ?_
      refine s_nil (r_false ?_)
      refine q_next ?_
      refine k_seq ?_
      refine k_region rfl ?_
      have hn8 := n.toNat_lt
      obtain ⟨da1, da2⟩ := hpa.2.2.2.2.1
      obtain ⟨dd, hdd, hd1, hd2, hd3⟩ : ∃ dd : Int, (a.dev + 1 + (n.toNat : Int) % 7) % 8 = dd ∧ 0 ≤ dd ∧ dd < 8 ∧ dd ≠ a.dev := ⟨_, rfl, by omega, by omega, by omega⟩
      have hdt : (a.dev + 1 + (n.toNat : Int) % 7).tmod 8 = dd := by rw [Int.tmod_eq_emod_of_nonneg (by omega)]; exact hdd
      iterate 7 refine a_op ?_
      refine a_op (hs := by (simp (disch := first | omega | (simp only [List.length_drop, List.length_take, List.length_map, List.length_append, List.length_cons, List.length_nil, List.length_replicate, List.length_set] <;> omega) | (simp only [push_cast] <;> omega) | fail) only [push_cast, reduceCtorEq, Nat.reduceAdd, Nat.reduceSub, Nat.reduceMul, Nat.reduceEqDiff, Nat.reduceLT, Nat.reduceLeDiff, Nat.reduceMod, Nat.reduceDiv, Int.reduceLE, Int.reduceLT, Int.reduceEq, Int.reduceToNat, Int.reduceAdd, Int.reduceSub, Int.reduceMul, Int.reduceNeg, hdd, hdt] <;> rfl)) ?_
      refine a_op ?_
      refine a_op ?_
      refine s_nil (r_false ?_)
      refine q_next ?_
      refine k_seq ?_
      refine k_region rfl ?_
      have hpc : rcP (⟨a.seq, a.prev, a.kind, a.dev, b.wraps, b.tag⟩ : Rc) := ⟨hpa.1, hpa.2.1, hpa.2.2.1, hpa.2.2.2.1, hpa.2.2.2.2.1, hpb.2.2.2.2.2.1, hpb.2.2.2.2.2.2⟩
      have hpd : rcP (⟨a.seq, a.prev, a.kind, dd, a.wraps, a.tag⟩ : Rc) := ⟨hpa.1, hpa.2.1, hpa.2.2.1, hpa.2.2.2.1, ⟨hd1, hd2⟩, hpa.2.2.2.2.2.1, hpa.2.2.2.2.2.2⟩
      have hac : (hdF a == hdF (⟨a.seq, a.prev, a.kind, a.dev, b.wraps, b.tag⟩ : Rc)) = true := beq_iff_eq.2 ((hdF_inj hpa hpc).2 ⟨rfl, rfl, rfl, rfl⟩)
      have had : (hdF a == hdF (⟨a.seq, a.prev, a.kind, dd, a.wraps, a.tag⟩ : Rc)) = false := beq_eq_false_iff_ne.2 (fun e => hd3 ((hdF_inj hpa hpd).1 e).2.2.2.symm)
      have hae : (hdF a == []) = false := beq_nil_ne (hd_ne hpa)
      refine a_opd ?_
      refine a_calld [] false (head_good Γ a hla) ?_
      refine a_opd ?_
      refine a_calld [] false (head_good Γ (⟨a.seq, a.prev, a.kind, a.dev, b.wraps, b.tag⟩ : Rc) hlb) ?_
      refine a_opd (hs := by (simp (disch := first | omega | (simp only [List.length_drop, List.length_take, List.length_map, List.length_append, List.length_cons, List.length_nil, List.length_replicate, List.length_set] <;> omega) | (simp only [push_cast] <;> omega) | fail) only [push_cast, reduceCtorEq, Nat.reduceAdd, Nat.reduceSub, Nat.reduceMul, Nat.reduceEqDiff, Nat.reduceLT, Nat.reduceLeDiff, Nat.reduceMod, Nat.reduceDiv, Int.reduceLE, Int.reduceLT, Int.reduceEq, Int.reduceToNat, Int.reduceAdd, Int.reduceSub, Int.reduceMul, Int.reduceNeg, hac] <;> rfl)) ?_
      refine a_opd ?_
      refine a_god ?_
      refine a_callgod [] false (head_good Γ a hla) ?_
      refine a_god ?_
      refine a_callgod [] false (head_good Γ b hlb) ?_
      refine a_god (hs := by (simp (disch := first | omega | (simp only [List.length_drop, List.length_take, List.length_map, List.length_append, List.length_cons, List.length_nil, List.length_replicate, List.length_set] <;> omega) | (simp only [push_cast] <;> omega) | fail) only [push_cast, reduceCtorEq, Nat.reduceAdd, Nat.reduceSub, Nat.reduceMul, Nat.reduceEqDiff, Nat.reduceLT, Nat.reduceLeDiff, Nat.reduceMod, Nat.reduceDiv, Int.reduceLE, Int.reduceLT, Int.reduceEq, Int.reduceToNat, Int.reduceAdd, Int.reduceSub, Int.reduceMul, Int.reduceNeg, hab] <;> rfl)) ?_
      refine a_god ?_
      refine a_god ?_
      refine a_opd ?_
      refine a_opd ?_
      refine a_god ?_
      refine a_callgod [] false (head_good Γ a hla) ?_
      refine a_god ?_
      refine a_callgod [] false (head_good Γ (⟨a.seq, a.prev, a.kind, dd, a.wraps, a.tag⟩ : Rc) hla) ?_
      refine a_god (hs := by (simp (disch := first | omega | (simp only [List.length_drop, List.length_take, List.length_map, List.length_append, List.length_cons, List.length_nil, List.length_replicate, List.length_set] <;> omega) | (simp only [push_cast] <;> omega) | fail) only [push_cast, reduceCtorEq, Nat.reduceAdd, Nat.reduceSub, Nat.reduceMul, Nat.reduceEqDiff, Nat.reduceLT, Nat.reduceLeDiff, Nat.reduceMod, Nat.reduceDiv, Int.reduceLE, Int.reduceLT, Int.reduceEq, Int.reduceToNat, Int.reduceAdd, Int.reduceSub, Int.reduceMul, Int.reduceNeg, had] <;> rfl)) ?_
      refine a_opd ?_
      refine a_opd ?_
      refine a_god ?_
      refine a_callgod [] false (head_good Γ a hla) ?_
      refine a_god (hs := by (simp (disch := first | omega | (simp only [List.length_drop, List.length_take, List.length_map, List.length_append, List.length_cons, List.length_nil, List.length_replicate, List.length_set] <;> omega) | (simp only [push_cast] <;> omega) | fail) only [push_cast, reduceCtorEq, Nat.reduceAdd, Nat.reduceSub, Nat.reduceMul, Nat.reduceEqDiff, Nat.reduceLT, Nat.reduceLeDiff, Nat.reduceMod, Nat.reduceDiv, Int.reduceLE, Int.reduceLT, Int.reduceEq, Int.reduceToNat, Int.reduceAdd, Int.reduceSub, Int.reduceMul, Int.reduceNeg, hae] <;> rfl)) ?_
      refine a_opd ?_
      refine a_opd ?_
      refine a_callgod [] false (awake_good Γ hE) ?_
      refine a_opd ?_
      refine a_opd ?_
      refine s_nil (r_true (by kernel_rfl) ?_)
      refine q_next ?_
      refine k_ret ?_
      refine ⟨.inr rfl, a_ret [] (by rw [results5]) ?_ ?_ ?_⟩ <;> simp [-List.map_set, -List.map_replicate, -List.reduceReplicate, -List.map_map, -List.map_drop, -List.map_take, num, bol, txt, w8, w16, w32, w64, lst, cls, rowO, boxO, List.take_of_length_le, Wr.cellsL_len, wA, Wr.k_mk, Wr.n_mk, Wr.s_mk, Wr.l_mk, Wr.cellsL, Wr.z_eq, rcT, wpT]
    · have hab : (hdF a == hdF b) = true := beq_iff_eq.2 ((hdF_inj hpa hpb).2 ⟨h1, by simpa using h2, h3, h4⟩)
      iterate 6 refine a_op ?_
      refine a_go ?_
      refine a_go ?_
      refine a_go ?_
      refine a_go ?_
      refine a_go (hs := by (simp (disch := first | omega | (simp only [List.length_drop, List.length_take, List.length_map, List.length_append, List.length_cons, List.length_nil, List.length_replicate, List.length_set] <;> omega) | (simp only [push_cast] <;> omega) | fail) only [push_cast, reduceCtorEq, Nat.reduceAdd, Nat.reduceSub, Nat.reduceMul, Nat.reduceEqDiff, Nat.reduceLT, Nat.reduceLeDiff, Nat.reduceMod, Nat.reduceDiv, Int.reduceLE, Int.reduceLT, Int.reduceEq, Int.reduceToNat, Int.reduceAdd, Int.reduceSub, Int.reduceMul, Int.reduceNeg, h2] <;> rfl)) ?_
      refine a_op ?_
      refine a_op ?_
      refine a_go ?_
      refine a_go ?_
      refine a_go ?_
      refine a_go ?_
      refine a_go ?_
      refine a_op ?_
      refine a_op ?_
      refine a_go ?_
      refine a_go ?_
      refine a_go ?_
      refine a_go ?_
      refine a_go ?_
      refine a_op ?_
      refine a_op ?_
      refine s_nil (r_false ?_)
      refine q_next ?_
      refine k_seq ?_
      refine k_region rfl ?_
      iterate 3 refine a_op ?_
      refine s_nil (r_false ?_)
      refine q_next ?_
      refine k_seq ?_
      refine k_region rfl ?_
      have hn8 := n.toNat_lt
      obtain ⟨da1, da2⟩ := hpa.2.2.2.2.1
      obtain ⟨dd, hdd, hd1, hd2, hd3⟩ : ∃ dd : Int, (a.dev + 1 + (n.toNat : Int) % 7) % 8 = dd ∧ 0 ≤ dd ∧ dd < 8 ∧ dd ≠ a.dev := ⟨_, rfl, by omega, by omega, by omega⟩
      have hdt : (a.dev + 1 + (n.toNat : Int) % 7).tmod 8 = dd := by rw [Int.tmod_eq_emod_of_nonneg (by omega)]; exact hdd
      iterate 7 refine a_op ?_
      refine a_op (hs := by (simp (disch := first | omega | (simp only [List.length_drop, List.length_take, List.length_map, List.length_append, List.length_cons, List.length_nil, List.length_replicate, List.length_set] <;> omega) | (simp only [push_cast] <;> omega) | fail) only [push_cast, reduceCtorEq, Nat.reduceAdd, Nat.reduceSub, Nat.reduceMul, Nat.reduceEqDiff, Nat.reduceLT, Nat.reduceLeDiff, Nat.reduceMod, Nat.reduceDiv, Int.reduceLE, Int.reduceLT, Int.reduceEq, Int.reduceToNat, Int.reduceAdd, Int.reduceSub, Int.reduceMul, Int.reduceNeg, hdd, hdt] <;> rfl)) ?_
      refine a_op ?_
      refine a_op ?_
      refine s_nil (r_false ?_)
      refine q_next ?_
      refine k_seq ?_
      refine k_region rfl ?_
      have hpc : rcP (⟨a.seq, a.prev, a.kind, a.dev, b.wraps, b.tag⟩ : Rc) := ⟨hpa.1, hpa.2.1, hpa.2.2.1, hpa.2.2.2.1, hpa.2.2.2.2.1, hpb.2.2.2.2.2.1, hpb.2.2.2.2.2.2⟩
      have hpd : rcP (⟨a.seq, a.prev, a.kind, dd, a.wraps, a.tag⟩ : Rc) := ⟨hpa.1, hpa.2.1, hpa.2.2.1, hpa.2.2.2.1, ⟨hd1, hd2⟩, hpa.2.2.2.2.2.1, hpa.2.2.2.2.2.2⟩
      have hac : (hdF a == hdF (⟨a.seq, a.prev, a.kind, a.dev, b.wraps, b.tag⟩ : Rc)) = true := beq_iff_eq.2 ((hdF_inj hpa hpc).2 ⟨rfl, rfl, rfl, rfl⟩)
      have had : (hdF a == hdF (⟨a.seq, a.prev, a.kind, dd, a.wraps, a.tag⟩ : Rc)) = false := beq_eq_false_iff_ne.2 (fun e => hd3 ((hdF_inj hpa hpd).1 e).2.2.2.symm)
      have hae : (hdF a == []) = false := beq_nil_ne (hd_ne hpa)
      refine a_opd ?_
      refine a_calld [] false (head_good Γ a hla) ?_
      refine a_opd ?_
      refine a_calld [] false (head_good Γ (⟨a.seq, a.prev, a.kind, a.dev, b.wraps, b.tag⟩ : Rc) hlb) ?_
      refine a_opd (hs := by (simp (disch := first | omega | (simp only [List.length_drop, List.length_take, List.length_map, List.length_append, List.length_cons, List.length_nil, List.length_replicate, List.length_set] <;> omega) | (simp only [push_cast] <;> omega) | fail) only [push_cast, reduceCtorEq, Nat.reduceAdd, Nat.reduceSub, Nat.reduceMul, Nat.reduceEqDiff, Nat.reduceLT, Nat.reduceLeDiff, Nat.reduceMod, Nat.reduceDiv, Int.reduceLE, Int.reduceLT, Int.reduceEq, Int.reduceToNat, Int.reduceAdd, Int.reduceSub, Int.reduceMul, Int.reduceNeg, hac] <;> rfl)) ?_
      refine a_opd ?_
      refine a_god ?_
      refine a_callgod [] false (head_good Γ a hla) ?_
      refine a_god ?_
      refine a_callgod [] false (head_good Γ b hlb) ?_
      refine a_god (hs := by (simp (disch := first | omega | (simp only [List.length_drop, List.length_take, List.length_map, List.length_append, List.length_cons, List.length_nil, List.length_replicate, List.length_set] <;> omega) | (simp only [push_cast] <;> omega) | fail) only [push_cast, reduceCtorEq, Nat.reduceAdd, Nat.reduceSub, Nat.reduceMul, Nat.reduceEqDiff, Nat.reduceLT, Nat.reduceLeDiff, Nat.reduceMod, Nat.reduceDiv, Int.reduceLE, Int.reduceLT, Int.reduceEq, Int.reduceToNat, Int.reduceAdd, Int.reduceSub, Int.reduceMul, Int.reduceNeg, hab] <;> rfl)) ?_
      refine a_god ?_
      refine a_god ?_
      refine a_opd ?_
      refine a_opd ?_
      refine a_god ?_
      refine a_callgod [] false (head_good Γ a hla) ?_
      refine a_god ?_
      refine a_callgod [] false (head_good Γ (⟨a.seq, a.prev, a.kind, dd, a.wraps, a.tag⟩ : Rc) hla) ?_
      refine a_god (hs := by (simp (disch := first | omega | (simp only [List.length_drop, List.length_take, List.length_map, List.length_append, List.length_cons, List.length_nil, List.length_replicate, List.length_set] <;> omega) | (simp only [push_cast] <;> omega) | fail) only [push_cast, reduceCtorEq, Nat.reduceAdd, Nat.reduceSub, Nat.reduceMul, Nat.reduceEqDiff, Nat.reduceLT, Nat.reduceLeDiff, Nat.reduceMod, Nat.reduceDiv, Int.reduceLE, Int.reduceLT, Int.reduceEq, Int.reduceToNat, Int.reduceAdd, Int.reduceSub, Int.reduceMul, Int.reduceNeg, had] <;> rfl)) ?_
      refine a_opd ?_
      refine a_opd ?_
      refine a_god ?_
      refine a_callgod [] false (head_good Γ a hla) ?_
      refine a_god (hs := by (simp (disch := first | omega | (simp only [List.length_drop, List.length_take, List.length_map, List.length_append, List.length_cons, List.length_nil, List.length_replicate, List.length_set] <;> omega) | (simp only [push_cast] <;> omega) | fail) only [push_cast, reduceCtorEq, Nat.reduceAdd, Nat.reduceSub, Nat.reduceMul, Nat.reduceEqDiff, Nat.reduceLT, Nat.reduceLeDiff, Nat.reduceMod, Nat.reduceDiv, Int.reduceLE, Int.reduceLT, Int.reduceEq, Int.reduceToNat, Int.reduceAdd, Int.reduceSub, Int.reduceMul, Int.reduceNeg, hae] <;> rfl)) ?_
      refine a_opd ?_
      refine a_opd ?_
      refine a_callgod [] false (awake_good Γ hE) ?_
      refine a_opd ?_
      refine a_opd ?_
      refine s_nil (r_true (by kernel_rfl) ?_)
      refine q_next ?_
      refine k_ret ?_
      refine ⟨.inr rfl, a_ret [] (by rw [results5]) ?_ ?_ ?_⟩ <;> simp [-List.map_set, -List.map_replicate, -List.reduceReplicate, -List.map_map, -List.map_drop, -List.map_take, num, bol, txt, w8, w16, w32, w64, lst, cls, rowO, boxO, List.take_of_length_le, Wr.cellsL_len, wA, Wr.k_mk, Wr.n_mk, Wr.s_mk, Wr.l_mk, Wr.cellsL, Wr.z_eq, rcT, wpT]

end Go.Proofs.Tryd
