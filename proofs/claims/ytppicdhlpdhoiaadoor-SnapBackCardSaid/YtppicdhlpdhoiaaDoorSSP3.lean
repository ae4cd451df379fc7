/- Contracts of this program's functions. -/
import Derived.Test.YtppicdhlpdhoiaaDoorSSP1
import Derived.Test.YtppicdhlpdhoiaaDoorSSP2
set_option maxHeartbeats 4000000
set_option maxRecDepth 100000
set_option linter.unusedVariables false
set_option linter.unusedSimpArgs false
namespace Go.Proofs.Tryd
open Go Go.Ot

theorem may_k3 {d : Nat} {w : Wr} (h : mayW d w = true) (h0 : 0 < w.l.length) : w.k = 3 := by
 have key : ∀ (deep : Bool) (sub : Wr → Bool), mayS deep sub w = true → w.k = 3 := fun deep sub h => by
  obtain ⟨k, n, s, l⟩ := w
  rw [Wr.l_mk] at h0
  rcases (show k = 1 ∨ k = 2 ∨ k = 3 ∨ (k ≠ 1 ∧ k ≠ 2 ∧ k ≠ 3) by omega) with rfl | rfl | rfl | h4
  ·rw [mayS_1] at h; simp at h; rw [h.2] at h0; cases h0
  ·rw [mayS_2] at h; simp at h; rw [h.1.2] at h0; cases h0
  ·rfl
  ·rw [mayS_o h4] at h; cases h
 cases d with
 | zero => exact key _ _ h
 | succ d => exact key _ _ h
theorem got_k3 {s : List UInt8} {W : Wr} (h : got s = some W) (h0 : 0 < W.l.length) : W.k = 3 := may_k3 (got_get h).1 h0
theorem got_sub3 {s : List UInt8} {W a : Wr} (h : got s = some W) (ha : a ∈ W.l) {i : Nat} (hi : i < a.l.length) (h0 : 0 < (a.l.getD i default).l.length) : (a.l.getD i default).k = 3 := by
 have h1 := (may_l (got_get h).1).2 a ha
 have h2 := (may_l h1).2 (a.l.getD i default) (by rw [getD_eq hi]; exact List.getElem_mem _)
 exact may_k3 h2 h0
theorem GS_nA {s : List UInt8} {W : Wr} (h : got s = some W) (h6 : ¬ (W.k = 3 ∧ (W.l.length : Int) = 2)) : GS s = none := GS_no2 h fun e => h6 ⟨got_k3 h (by omega), by omega⟩
theorem GS_nB {s : List UInt8} {W a b : Wr} (h : got s = some W) (hl : W.l = [a, b]) (ho : okN 3 a.l = false) : GS s = none := by
 obtain ⟨i, hi, hn⟩ := okN_ex ho
 exact GS_no3 h hl hi fun e => hn ⟨got_sub3 h (by rw [hl]; simp) hi (by omega), e⟩
theorem GS_nC {s : List UInt8} {W a b : Wr} (h : got s = some W) (hl : W.l = [a, b]) (ho : okN 6 b.l = false) : GS s = none := by
 obtain ⟨i, hi, hn⟩ := okN_ex ho
 exact GS_no6 h hl hi fun e => hn ⟨got_sub3 h (by rw [hl]; simp) hi (by omega), e⟩
theorem got_few2 {s : List UInt8} {W a b : Wr} (h : got s = some W) (hl : W.l = [a, b]) : a.l.length ≤ 65536 ∧ b.l.length ≤ 65536 := by
 have h1 := stOf_few h
 rw [stOf_2 hl] at h1
 simpa using h1
theorem state_cases {s : List UInt8} {W : Wr} (h : got s = some W) : (¬ (W.k = 3 ∧ (W.l.length : Int) = 2)) ∨ (W.k = 3 ∧ ∃ a b, W.l = [a, b] ∧ (a.l.length ≤ 65536 ∧ b.l.length ≤ 65536) ∧ (okN 3 a.l = false ∨ (okN 3 a.l = true ∧ okN 6 b.l = false) ∨ (okN 3 a.l = true ∧ okN 6 b.l = true))) := by
 by_cases h2 : W.k = 3 ∧ (W.l.length : Int) = 2
 ·obtain ⟨a, b, hl⟩ := two_of (show W.l.length = 2 by omega)
  refine .inr ⟨h2.1, a, b, hl, got_few2 h hl, ?_⟩
  cases okN 3 a.l <;> cases okN 6 b.l <;> simp
 ·exact .inl h2
attribute [local irreducible] wpK wpS seqK blockK loopF regK meetK OpSpec Le rdS lpW rdW got mayS mayW putS putW nb u64 PutW stF saB
theorem state_a (Γ : Gl) (w : Wr) (h : ¬ (w.k = 3 ∧ (w.l.length : Int) = 2)) : Go.Ot.Good Γ prog 23 [wA w] [] (.tup [.agg [.t (.v (.slice none 0 0)), .t (.v (.slice none 0 0))], .t (PT [115, 116, 97, 116, 101])]) [] [] := by
 refine a_body F.mix func23 (by rfl) ntmps23 ?_
 refine k_seq ?_
 refine k_region rfl ?_
 iterate 3 refine a_op ?_
 refine s_nil (r_false ?_)
 refine q_next ?_
 refine k_seq ?_
 refine k_region rfl ?_
 refine a_op ?_
 refine a_call [] true (lists_no Γ w 2 h) ?_
 iterate 5 refine a_op ?_
 refine s_nil (r_false ?_)
 refine q_next ?_
 refine k_seq ?_
 refine k_seq ?_
 refine k_region rfl ?_
 refine a_op ?_
 refine a_isnil true ?_
 refine s_nil (r_false ?_)
 refine q_next ?_
 refine a_true ?_
 refine k_seq ?_
 refine k_region rfl ?_
 iterate 6 refine a_op ?_
 refine s_nil (r_false ?_)
 refine q_next ?_
 refine k_ret ?_
 refine q_seq_ret ?_
 refine ⟨.inr rfl, a_ret [] (by rw [results23]) ?_ ?_ ?_⟩ <;> simp [-List.map_set, -List.map_replicate, -List.reduceReplicate, -List.map_map, -List.map_drop, -List.map_take, num, bol, txt, w8, w16, w32, w64, lst, cls, rowO, boxO, List.take_of_length_le, Wr.cellsL_len, wA, Wr.k_mk, Wr.n_mk, Wr.s_mk, Wr.l_mk, Wr.cellsL, Wr.z_eq, rnT, ftT, wS, WT_eq, PT_eq]

theorem state_b (Γ : Gl) (w a b : Wr) (hk : w.k = 3) (hl : w.l = [a, b]) (ha : a.l.length ≤ 65536) (hb : b.l.length ≤ 65536) (h3 : okN 3 a.l = false) : Go.Ot.Good Γ prog 23 [wA w] [] (.tup [.agg [.t (.v (.slice none 0 0)), .t (.v (.slice none 0 0))], .t (PT [114, 117, 110])]) [] [] := by
 refine a_body F.mix func23 (by rfl) ntmps23 ?_
 refine k_seq ?_
 refine k_region rfl ?_
 iterate 3 refine a_op ?_
 refine s_nil (r_false ?_)
 refine q_next ?_
 refine k_seq ?_
 refine k_region rfl ?_
 refine a_op ?_
 refine a_call [] true (lists_ok Γ w 2 hk (by rw [hl]; rfl)) ?_
 iterate 5 refine a_op ?_
 refine s_nil (r_false ?_)
 refine q_next ?_
 refine k_seq ?_
 refine k_seq ?_
 refine k_region rfl ?_
 refine a_op ?_
 refine a_nilnil true ?_
 refine s_nil (r_false ?_)
 refine q_next ?_
 refine a_false ?_
 refine k_skip ?_
 refine q_next ?_
 refine k_seq ?_
 refine k_seq ?_
 refine k_region rfl ?_
 simp only [hl]
 iterate 4 refine a_op ?_
 refine a_call [] true (by have h := sseen_good Γ a.l (by omega); rw [h3] at h; exact h) ?_
 iterate 6 refine a_op ?_
 refine s_nil (r_false ?_)
 refine q_next ?_
 refine k_seq ?_
 refine k_region rfl ?_
 refine a_op ?_
 refine a_isnil true ?_
 refine s_nil (r_false ?_)
 refine q_next ?_
 refine a_true ?_
 refine k_seq ?_
 refine k_region rfl ?_
 iterate 4 refine a_op ?_
 refine s_nil (r_false ?_)
 refine q_next ?_
 refine k_ret ?_
 refine q_seq_ret ?_
 refine ⟨.inr rfl, a_ret [] (by rw [results23]) ?_ ?_ ?_⟩ <;> simp [-List.map_set, -List.map_replicate, -List.reduceReplicate, -List.map_map, -List.map_drop, -List.map_take, num, bol, txt, w8, w16, w32, w64, lst, cls, rowO, boxO, List.take_of_length_le, Wr.cellsL_len, wA, Wr.k_mk, Wr.n_mk, Wr.s_mk, Wr.l_mk, Wr.cellsL, Wr.z_eq, rnT, ftT, wS, WT_eq, PT_eq]

theorem state_c (Γ : Gl) (w a b : Wr) (hk : w.k = 3) (hl : w.l = [a, b]) (ha : a.l.length ≤ 65536) (hb : b.l.length ≤ 65536) (h3 : okN 3 a.l = true) (h6 : okN 6 b.l = false) : Go.Ot.Good Γ prog 23 [wA w] [] (.tup [.agg [.t (.sl (a.l.map rnOf).length ((a.l.map rnOf).flatMap rnT)), .t (.v (.slice none 0 0))], .t (PT [102, 97, 99, 116])]) [] [] := by
 refine a_body F.mix func23 (by rfl) ntmps23 ?_
 refine k_seq ?_
 refine k_region rfl ?_
 iterate 3 refine a_op ?_
 refine s_nil (r_false ?_)
 refine q_next ?_
 refine k_seq ?_
 refine k_region rfl ?_
 refine a_op ?_
 refine a_call [] true (lists_ok Γ w 2 hk (by rw [hl]; rfl)) ?_
 iterate 5 refine a_op ?_
 refine s_nil (r_false ?_)
 refine q_next ?_
 refine k_seq ?_
 refine k_seq ?_
 refine k_region rfl ?_
 refine a_op ?_
 refine a_nilnil true ?_
 refine s_nil (r_false ?_)
 refine q_next ?_
 refine a_false ?_
 refine k_skip ?_
 refine q_next ?_
 refine k_seq ?_
 refine k_seq ?_
 refine k_region rfl ?_
 simp only [hl]
 iterate 4 refine a_op ?_
 refine a_call [] true (by have h := sseen_good Γ a.l (by omega); rw [h3] at h; exact h) ?_
 iterate 6 refine a_op ?_
 refine s_nil (r_false ?_)
 refine q_next ?_
 refine k_seq ?_
 refine k_region rfl ?_
 refine a_op ?_
 refine a_nilnil true ?_
 refine s_nil (r_false ?_)
 refine q_next ?_
 refine a_false ?_
 refine k_skip ?_
 refine q_next ?_
 refine k_seq ?_
 refine k_region rfl ?_
 iterate 4 refine a_op ?_
 refine a_call [] true (by have h := sleft_good Γ b.l (by omega); rw [h6] at h; exact h) ?_
 iterate 6 refine a_op ?_
 refine s_nil (r_false ?_)
 refine q_next ?_
 refine k_seq ?_
 refine k_region rfl ?_
 iterate 4 refine a_op ?_
 refine s_nil (r_false ?_)
 refine q_next ?_
 refine k_ret ?_
 refine ⟨.inr rfl, a_ret [] (by rw [results23]) ?_ ?_ ?_⟩ <;> simp [-List.map_set, -List.map_replicate, -List.reduceReplicate, -List.map_map, -List.map_drop, -List.map_take, num, bol, txt, w8, w16, w32, w64, lst, cls, rowO, boxO, List.take_of_length_le, Wr.cellsL_len, wA, Wr.k_mk, Wr.n_mk, Wr.s_mk, Wr.l_mk, Wr.cellsL, Wr.z_eq, rnT, ftT, wS, WT_eq, PT_eq]

theorem state_d (Γ : Gl) (w a b : Wr) (hk : w.k = 3) (hl : w.l = [a, b]) (ha : a.l.length ≤ 65536) (hb : b.l.length ≤ 65536) (h3 : okN 3 a.l = true) (h6 : okN 6 b.l = true) : Go.Ot.Good Γ prog 23 [wA w] [] (.tup [.agg [.t (.sl (a.l.map rnOf).length ((a.l.map rnOf).flatMap rnT)), .t (.sl (b.l.map ftOf).length ((b.l.map ftOf).flatMap ftT))], .t (.v .nilIface)]) [] [] := by
 refine a_body F.mix func23 (by rfl) ntmps23 ?_
 refine k_seq ?_
 refine k_region rfl ?_
 iterate 3 refine a_op ?_
 refine s_nil (r_false ?_)
 refine q_next ?_
 refine k_seq ?_
 refine k_region rfl ?_
 refine a_op ?_
 refine a_call [] true (lists_ok Γ w 2 hk (by rw [hl]; rfl)) ?_
 iterate 5 refine a_op ?_
 refine s_nil (r_false ?_)
 refine q_next ?_
 refine k_seq ?_
 refine k_seq ?_
 refine k_region rfl ?_
 refine a_op ?_
 refine a_nilnil true ?_
 refine s_nil (r_false ?_)
 refine q_next ?_
 refine a_false ?_
 refine k_skip ?_
 refine q_next ?_
 refine k_seq ?_
 refine k_seq ?_
 refine k_region rfl ?_
 simp only [hl]
 iterate 4 refine a_op ?_
 refine a_call [] true (by have h := sseen_good Γ a.l (by omega); rw [h3] at h; exact h) ?_
 iterate 6 refine a_op ?_
 refine s_nil (r_false ?_)
 refine q_next ?_
 refine k_seq ?_
 refine k_region rfl ?_
 refine a_op ?_
 refine a_nilnil true ?_
 refine s_nil (r_false ?_)
 refine q_next ?_
 refine a_false ?_
 refine k_skip ?_
 refine q_next ?_
 refine k_seq ?_
 refine k_region rfl ?_
 iterate 4 refine a_op ?_
 refine a_call [] true (by have h := sleft_good Γ b.l (by omega); rw [h6] at h; exact h) ?_
 iterate 6 refine a_op ?_
 refine s_nil (r_false ?_)
 refine q_next ?_
 refine k_seq ?_
 refine k_region rfl ?_
 iterate 4 refine a_op ?_
 refine s_nil (r_false ?_)
 refine q_next ?_
 refine k_ret ?_
 refine ⟨.inr rfl, a_ret [] (by rw [results23]) ?_ ?_ ?_⟩ <;> simp [-List.map_set, -List.map_replicate, -List.reduceReplicate, -List.map_map, -List.map_drop, -List.map_take, num, bol, txt, w8, w16, w32, w64, lst, cls, rowO, boxO, List.take_of_length_le, Wr.cellsL_len, wA, Wr.k_mk, Wr.n_mk, Wr.s_mk, Wr.l_mk, Wr.cellsL, Wr.z_eq, rnT, ftT, wS, WT_eq, PT_eq]

theorem sget_good (Γ : Gl) (hE : EG Γ) (s : List UInt8) (hs : s.length ≤ 1000000) : Go.Ot.Good Γ prog 11 [.t (txt s)] [] ((match GS s with | some x => .tup [.agg [.t (.sl x.seen.length (x.seen.flatMap rnT)), .t (.sl x.fs.length (x.fs.flatMap ftT))], .t (bol true)] | none => .tup [.agg [.t (.v (.slice none 0 0)), .t (.v (.slice none 0 0))], .t (bol false)])) [] [] := by
 refine a_body F.mix func11 (by rfl) ntmps11 ?_
 refine k_seq ?_
 refine k_region rfl ?_
 refine a_op ?_
 refine a_op ?_
 refine s_nil (r_false ?_)
 refine q_next ?_
 refine k_seq ?_
 refine k_region rfl ?_
 rcases hg : got s with _ | W
 rotate_left 1
 rcases state_cases hg with h2 | ⟨hk, a, b, hl, ⟨ha, hb⟩, h3 | ⟨h3, h6⟩ | ⟨h3, h6⟩⟩
 rotate_left 3
 have hbe : stF ⟨a.l.map rnOf, b.l.map ftOf⟩ = s ∨ stF ⟨a.l.map rnOf, b.l.map ftOf⟩ ≠ s := Classical.em _
 rcases hbe with hbe | hbe
 rotate_right 3
 rotate_right 1
 ·have hq := GS_no hg
  refine a_op ?_
  refine a_call [] true ((by have h := Get_good Γ hE (s) (hs); rw [hg, Option.getD_none, Option.isSome_none] at h; exact h)) ?_
  iterate 6 refine a_op ?_
  refine s_nil (r_false ?_)
  refine q_next ?_
  refine k_seq ?_
  refine k_region rfl ?_
  refine a_op ?_
  refine a_call [] true (state_a Γ Wr.z (by decide)) ?_
  iterate 6 refine a_op ?_
  refine s_nil (r_false ?_)
  refine q_next ?_
  refine k_seq ?_
  refine k_region rfl ?_
  refine a_op ?_
  refine s_nil (r_false ?_)
  refine q_next ?_
  refine k_seq ?_
  refine k_seq ?_
  refine k_region rfl ?_
  iterate 3 refine a_op ?_
  refine a_no ?_
  refine a_no ?_
  refine a_no ?_
  refine a_op ?_
  refine a_op ?_
  refine a_no ?_
  refine a_no ?_
  refine a_no ?_
  refine a_no ?_
  refine a_op ?_
  refine s_nil (r_false ?_)
  refine q_next ?_
  refine a_true ?_
  refine k_seq ?_
  refine k_region rfl ?_
  iterate 3 refine a_op ?_
  refine s_nil (r_false ?_)
  refine q_next ?_
  refine k_ret ?_
  refine q_seq_ret ?_
  refine ⟨.inr rfl, a_ret [] (by rw [results11]) ?_ ?_ ?_⟩ <;> simp [-List.map_set, -List.map_replicate, -List.reduceReplicate, -List.map_map, -List.map_drop, -List.map_take, num, bol, txt, w8, w16, w32, w64, lst, cls, rowO, boxO, List.take_of_length_le, Wr.cellsL_len, wA, Wr.k_mk, Wr.n_mk, Wr.s_mk, Wr.l_mk, Wr.cellsL, Wr.z_eq, rnT, ftT, wS, WT_eq, PT_eq, hq]
 ·have hq := GS_nA hg h2
  refine a_op ?_
  refine a_call [] true ((by have h := Get_good Γ hE (s) (hs); rw [hg, Option.getD_some, Option.isSome_some] at h; exact h)) ?_
  iterate 6 refine a_op ?_
  refine s_nil (r_false ?_)
  refine q_next ?_
  refine k_seq ?_
  refine k_region rfl ?_
  refine a_op ?_
  refine a_call [] true (state_a Γ W h2) ?_
  iterate 6 refine a_op ?_
  refine s_nil (r_false ?_)
  refine q_next ?_
  refine k_seq ?_
  refine k_region rfl ?_
  refine a_op ?_
  refine s_nil (r_false ?_)
  refine q_next ?_
  refine k_seq ?_
  refine k_seq ?_
  refine k_region rfl ?_
  iterate 3 refine a_op ?_
  refine a_go ?_
  refine a_go ?_
  refine a_callpgo [.r 3 0 0] [] [] false ((Sn.As_good Γ hE [[115, 116, 97, 116, 101]] [110, 111, 32, 108, 105, 115, 116, 32, 111, 102, 32, 115, 111, 32, 109, 97, 110, 121] (.v (.string ⟨#[]⟩))).plain1 (PT_plain [115, 116, 97, 116, 101])) ?_
  refine a_op ?_
  refine a_op ?_
  refine a_no ?_
  refine a_no ?_
  refine a_no ?_
  refine a_no ?_
  refine a_op ?_
  refine s_nil (r_false ?_)
  refine q_next ?_
  refine a_true ?_
  refine k_seq ?_
  refine k_region rfl ?_
  iterate 3 refine a_op ?_
  refine s_nil (r_false ?_)
  refine q_next ?_
  refine k_ret ?_
  refine q_seq_ret ?_
  refine ⟨.inr rfl, a_ret [] (by rw [results11]) ?_ ?_ ?_⟩ <;> simp [-List.map_set, -List.map_replicate, -List.reduceReplicate, -List.map_map, -List.map_drop, -List.map_take, num, bol, txt, w8, w16, w32, w64, lst, cls, rowO, boxO, List.take_of_length_le, Wr.cellsL_len, wA, Wr.k_mk, Wr.n_mk, Wr.s_mk, Wr.l_mk, Wr.cellsL, Wr.z_eq, rnT, ftT, wS, WT_eq, PT_eq, hq]
 ·have hq := GS_nB hg hl h3
  refine a_op ?_
  refine a_call [] true ((by have h := Get_good Γ hE (s) (hs); rw [hg, Option.getD_some, Option.isSome_some] at h; exact h)) ?_
  iterate 6 refine a_op ?_
  refine s_nil (r_false ?_)
  refine q_next ?_
  refine k_seq ?_
  refine k_region rfl ?_
  refine a_op ?_
  refine a_call [] true (state_b Γ W a b hk hl ha hb h3) ?_
  iterate 6 refine a_op ?_
  refine s_nil (r_false ?_)
  refine q_next ?_
  refine k_seq ?_
  refine k_region rfl ?_
  refine a_op ?_
  refine s_nil (r_false ?_)
  refine q_next ?_
  refine k_seq ?_
  refine k_seq ?_
  refine k_region rfl ?_
  iterate 3 refine a_op ?_
  refine a_go ?_
  refine a_go ?_
  refine a_callpgo [.r 3 0 0] [] [] false ((Sn.As_good Γ hE [[114, 117, 110]] [110, 111, 32, 108, 105, 115, 116, 32, 111, 102, 32, 115, 111, 32, 109, 97, 110, 121] (.v (.string ⟨#[]⟩))).plain1 (PT_plain [114, 117, 110])) ?_
  refine a_op ?_
  refine a_op ?_
  refine a_no ?_
  refine a_no ?_
  refine a_no ?_
  refine a_no ?_
  refine a_op ?_
  refine s_nil (r_false ?_)
  refine q_next ?_
  refine a_true ?_
  refine k_seq ?_
  refine k_region rfl ?_
  iterate 3 refine a_op ?_
  refine s_nil (r_false ?_)
  refine q_next ?_
  refine k_ret ?_
  refine q_seq_ret ?_
  refine ⟨.inr rfl, a_ret [] (by rw [results11]) ?_ ?_ ?_⟩ <;> simp [-List.map_set, -List.map_replicate, -List.reduceReplicate, -List.map_map, -List.map_drop, -List.map_take, num, bol, txt, w8, w16, w32, w64, lst, cls, rowO, boxO, List.take_of_length_le, Wr.cellsL_len, wA, Wr.k_mk, Wr.n_mk, Wr.s_mk, Wr.l_mk, Wr.cellsL, Wr.z_eq, rnT, ftT, wS, WT_eq, PT_eq, hq]
 ·have hq := GS_nC hg hl h6
  refine a_op ?_
  refine a_call [] true ((by have h := Get_good Γ hE (s) (hs); rw [hg, Option.getD_some, Option.isSome_some] at h; exact h)) ?_
  iterate 6 refine a_op ?_
  refine s_nil (r_false ?_)
  refine q_next ?_
  refine k_seq ?_
  refine k_region rfl ?_
  refine a_op ?_
  refine a_call [] true (state_c Γ W a b hk hl ha hb h3 h6) ?_
  iterate 6 refine a_op ?_
  refine s_nil (r_false ?_)
  refine q_next ?_
  refine k_seq ?_
  refine k_region rfl ?_
  refine a_op ?_
  refine s_nil (r_false ?_)
  refine q_next ?_
  refine k_seq ?_
  refine k_seq ?_
  refine k_region rfl ?_
  iterate 3 refine a_op ?_
  refine a_go ?_
  refine a_go ?_
  refine a_callpgo [.r 3 0 0] [] [] false ((Sn.As_good Γ hE [[102, 97, 99, 116]] [110, 111, 32, 108, 105, 115, 116, 32, 111, 102, 32, 115, 111, 32, 109, 97, 110, 121] (.v (.string ⟨#[]⟩))).plain1 (PT_plain [102, 97, 99, 116])) ?_
  refine a_op ?_
  refine a_op ?_
  refine a_no ?_
  refine a_no ?_
  refine a_no ?_
  refine a_no ?_
  refine a_op ?_
  refine s_nil (r_false ?_)
  refine q_next ?_
  refine a_true ?_
  refine k_seq ?_
  refine k_region rfl ?_
  iterate 3 refine a_op ?_
  refine s_nil (r_false ?_)
  refine q_next ?_
  refine k_ret ?_
  refine q_seq_ret ?_
  refine ⟨.inr rfl, a_ret [] (by rw [results11]) ?_ ?_ ?_⟩ <;> simp [-List.map_set, -List.map_replicate, -List.reduceReplicate, -List.map_map, -List.map_drop, -List.map_take, num, bol, txt, w8, w16, w32, w64, lst, cls, rowO, boxO, List.take_of_length_le, Wr.cellsL_len, wA, Wr.k_mk, Wr.n_mk, Wr.s_mk, Wr.l_mk, Wr.cellsL, Wr.z_eq, rnT, ftT, wS, WT_eq, PT_eq, hq]
 ·have hq := GS_y hg (by rw [stOf_2 hl]; exact hbe)
  rw [stOf_2 hl] at hq
  have hbq : (stF ⟨a.l.map rnOf, b.l.map ftOf⟩ == s) = true := by simpa using hbe
  refine a_op ?_
  refine a_call [] true ((by have h := Get_good Γ hE (s) (hs); rw [hg, Option.getD_some, Option.isSome_some] at h; exact h)) ?_
  iterate 6 refine a_op ?_
  refine s_nil (r_false ?_)
  refine q_next ?_
  refine k_seq ?_
  refine k_region rfl ?_
  refine a_op ?_
  refine a_call [] true (state_d Γ W a b hk hl ha hb h3 h6) ?_
  iterate 6 refine a_op ?_
  refine s_nil (r_false ?_)
  refine q_next ?_
  refine k_seq ?_
  refine k_region rfl ?_
  refine a_op ?_
  refine s_nil (r_false ?_)
  refine q_next ?_
  refine k_seq ?_
  refine k_seq ?_
  refine k_region rfl ?_
  iterate 3 refine a_op ?_
  refine a_go ?_
  refine a_go ?_
  refine a_callpgo [.r 3 0 0] [] [] false (Sn.Asnil_good Γ (.v (.string ⟨#[]⟩))) ?_
  refine a_op ?_
  refine a_op ?_
  refine a_go ?_
  refine a_callgo [] false (sput_good Γ ⟨a.l.map rnOf, b.l.map ftOf⟩ (by simp; omega) (by simp; omega)) ?_
  refine a_go ?_
  refine a_go (hs := by (simp (disch := first | omega | (simp only [List.length_drop, List.length_take, List.length_map, List.length_append, List.length_cons, List.length_nil, List.length_replicate, List.length_set] <;> omega) | (simp only [push_cast] <;> omega) | fail) only [push_cast, reduceCtorEq, Nat.reduceAdd, Nat.reduceSub, Nat.reduceMul, Nat.reduceEqDiff, Nat.reduceLT, Nat.reduceLeDiff, Nat.reduceMod, Nat.reduceDiv, Int.reduceLE, Int.reduceLT, Int.reduceEq, Int.reduceToNat, Int.reduceAdd, Int.reduceSub, Int.reduceMul, Int.reduceNeg, hbq] <;> rfl)) ?_
  refine a_op ?_
  refine s_nil (r_false ?_)
  refine q_next ?_
  refine a_false ?_
  refine k_skip ?_
  refine q_next ?_
  refine k_seq ?_
  refine k_region rfl ?_
  iterate 3 refine a_op ?_
  refine s_nil (r_false ?_)
  refine q_next ?_
  refine k_ret ?_
  refine ⟨.inr rfl, a_ret [] (by rw [results11]) ?_ ?_ ?_⟩ <;> simp [-List.map_set, -List.map_replicate, -List.reduceReplicate, -List.map_map, -List.map_drop, -List.map_take, num, bol, txt, w8, w16, w32, w64, lst, cls, rowO, boxO, List.take_of_length_le, Wr.cellsL_len, wA, Wr.k_mk, Wr.n_mk, Wr.s_mk, Wr.l_mk, Wr.cellsL, Wr.z_eq, rnT, ftT, wS, WT_eq, PT_eq, hq]
 ·have hq := GS_n hg (by rw [stOf_2 hl]; exact hbe)
  have hbq : (stF ⟨a.l.map rnOf, b.l.map ftOf⟩ == s) = false := by simpa using hbe
  refine a_op ?_
  refine a_call [] true ((by have h := Get_good Γ hE (s) (hs); rw [hg, Option.getD_some, Option.isSome_some] at h; exact h)) ?_
  iterate 6 refine a_op ?_
  refine s_nil (r_false ?_)
  refine q_next ?_
  refine k_seq ?_
  refine k_region rfl ?_
  refine a_op ?_
  refine a_call [] true (state_d Γ W a b hk hl ha hb h3 h6) ?_
  iterate 6 refine a_op ?_
  refine s_nil (r_false ?_)
  refine q_next ?_
  refine k_seq ?_
  refine k_region rfl ?_
  refine a_op ?_
  refine s_nil (r_false ?_)
  refine q_next ?_
  refine k_seq ?_
  refine k_seq ?_
  refine k_region rfl ?_
  iterate 3 refine a_op ?_
  refine a_go ?_
  refine a_go ?_
  refine a_callpgo [.r 3 0 0] [] [] false (Sn.Asnil_good Γ (.v (.string ⟨#[]⟩))) ?_
  refine a_op ?_
  refine a_op ?_
  refine a_go ?_
  refine a_callgo [] false (sput_good Γ ⟨a.l.map rnOf, b.l.map ftOf⟩ (by simp; omega) (by simp; omega)) ?_
  refine a_go ?_
  refine a_go (hs := by (simp (disch := first | omega | (simp only [List.length_drop, List.length_take, List.length_map, List.length_append, List.length_cons, List.length_nil, List.length_replicate, List.length_set] <;> omega) | (simp only [push_cast] <;> omega) | fail) only [push_cast, reduceCtorEq, Nat.reduceAdd, Nat.reduceSub, Nat.reduceMul, Nat.reduceEqDiff, Nat.reduceLT, Nat.reduceLeDiff, Nat.reduceMod, Nat.reduceDiv, Int.reduceLE, Int.reduceLT, Int.reduceEq, Int.reduceToNat, Int.reduceAdd, Int.reduceSub, Int.reduceMul, Int.reduceNeg, hbq] <;> rfl)) ?_
  refine a_op ?_
  refine s_nil (r_false ?_)
  refine q_next ?_
  refine a_true ?_
  refine k_seq ?_
  refine k_region rfl ?_
  iterate 3 refine a_op ?_
  refine s_nil (r_false ?_)
  refine q_next ?_
  refine k_ret ?_
  refine q_seq_ret ?_
  refine ⟨.inr rfl, a_ret [] (by rw [results11]) ?_ ?_ ?_⟩ <;> simp [-List.map_set, -List.map_replicate, -List.reduceReplicate, -List.map_map, -List.map_drop, -List.map_take, num, bol, txt, w8, w16, w32, w64, lst, cls, rowO, boxO, List.take_of_length_le, Wr.cellsL_len, wA, Wr.k_mk, Wr.n_mk, Wr.s_mk, Wr.l_mk, Wr.cellsL, Wr.z_eq, rnT, ftT, wS, WT_eq, PT_eq, hq]

end Go.Proofs.Tryd
