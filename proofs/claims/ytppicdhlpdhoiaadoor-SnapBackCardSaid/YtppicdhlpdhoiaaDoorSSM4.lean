/- Contracts of this program's functions. -/
import Derived.Test.YtppicdhlpdhoiaaDoorSSM3
set_option maxHeartbeats 4000000
set_option maxRecDepth 100000
set_option linter.unusedVariables false
set_option linter.unusedSimpArgs false
namespace Go.Proofs.Tryd
open Go Go.Ot

theorem drop_c {α : Type} [Inhabited α] {l : List α} {i : Nat} (h : i < l.length) : l.drop i = l.getD i default :: l.drop (i + 1) := by rw [List.drop_eq_getElem_cons h, getD_eq h]
theorem mgL {P Q : Ft → Bool} {l m : List Ft} {i k : Nat} {x : Ft} (hi : i < l.length) (hx : l.getD i default = x) (h : k = m.length ∨ (k < m.length ∧ cmF x (m.getD k default) ≤ 0)) : mg P Q (l.drop i) (m.drop k) = (if P x = true then [x] else []) ++ mg P Q (l.drop (i + 1)) (m.drop k) := by
 rw [drop_c hi, hx]
 rcases h with rfl | ⟨h, hc⟩
 ·rw [List.drop_length, mg]; split <;> rfl
 ·rw [drop_c h, mg, if_pos hc]; split <;> rfl
theorem mgR {P Q : Ft → Bool} {l m : List Ft} {i k : Nat} {y : Ft} (hk : k < m.length) (hy : m.getD k default = y) (h : i = l.length ∨ (i < l.length ∧ 0 < cmF (l.getD i default) y)) : mg P Q (l.drop i) (m.drop k) = (if Q y = true then [y] else []) ++ mg P Q (l.drop i) (m.drop (k + 1)) := by
 rw [drop_c hk, hy]
 rcases h with rfl | ⟨h, hc⟩
 ·rw [List.drop_length, mg]; split <;> rfl
 ·rw [drop_c h, mg, if_neg (by omega)]; split <;> rfl
theorem mgE {P Q : Ft → Bool} {l m : List Ft} {i k : Nat} (hi : i = l.length) (hk : k = m.length) : mg P Q (l.drop i) (m.drop k) = [] := by
 subst hi hk
 rw [List.drop_length, List.drop_length, mg]
theorem jP_u {b : Sa} {x : Ft} (h : hasB b.seen x.dev x.n = false) : jP b x = true := by rw [jP, h]; rfl
theorem jP_v {b : Sa} {x : Ft} (h : atB b.fs x.dev x.n = true) : jP b x = true := by rw [jP, h, Bool.or_true]
theorem jP_w {b : Sa} {x : Ft} (h : hasB b.seen x.dev x.n = true) (h2 : atB b.fs x.dev x.n = false) : jP b x = false := by rw [jP, h, h2]; rfl
theorem jQ_u {b : Sa} {x : Ft} (h : hasB b.seen x.dev x.n = false) : jQ b x = true := by rw [jQ, h]; rfl
theorem jQ_w {b : Sa} {x : Ft} (h : hasB b.seen x.dev x.n = true) : jQ b x = false := by rw [jQ, h]; rfl
theorem go_on {o l r : List Ft} {c : Prop} [Decidable c] {x : Ft} {z : List Ft} (h : o ++ l = z) (he : l = (if c then [x] else []) ++ r) : (c → (o ++ [x]) ++ r = z) ∧ (¬ c → o ++ r = z) := by
 constructor
 ·intro hc; rw [if_pos hc] at he; rw [← h, he, List.append_assoc]
 ·intro hc; rw [if_neg hc] at he; rw [← h, he]; rfl
attribute [local irreducible] wpK wpS seqK blockK loopF regK meetK OpSpec Le
theorem join_good (Γ : Gl) (a b : Sa) (ha : a.seen.length ≤ 100000) (hb : b.seen.length ≤ 100000) (pa : ∀ r ∈ a.seen, rnP r) (pb : ∀ r ∈ b.seen, rnP r) (ha2 : a.fs.length ≤ 100000) (hb2 : b.fs.length ≤ 100000) : Go.Ot.Good Γ prog 14 [.agg [.t (.sl a.seen.length (a.seen.flatMap rnT)), .t (.sl a.fs.length (a.fs.flatMap ftT))], .agg [.t (.sl b.seen.length (b.seen.flatMap rnT)), .t (.sl b.fs.length (b.fs.flatMap ftT))]] [] (.agg [.t (.sl (joF a b).seen.length ((joF a b).seen.flatMap rnT)), .t (.sl (joF a b).fs.length ((joF a b).fs.flatMap ftT))]) [] [] := by
 refine a_body F.mix func14 (by rfl) ntmps14 ?_
 refine k_seq ?_
 refine k_region rfl ?_
 iterate 3 refine a_op ?_
 refine s_nil (r_false ?_)
 refine q_next ?_
 refine k_seq ?_
 refine k_region rfl ?_
 iterate 4 refine a_op ?_
 refine a_call [] true (union_good Γ a.seen b.seen ha hb pa pb) ?_
 obtain ⟨U, hU⟩ : ∃ U, unF a.seen b.seen = U := ⟨_, rfl⟩
 simp only [hU]
 iterate 3 refine a_op ?_
 refine s_nil (r_false ?_)
 refine q_next ?_
 refine k_seq ?_
 refine k_region rfl ?_
 refine a_op ?_
 refine a_op ?_
 refine s_nil (r_false ?_)
 refine q_next ?_
 refine k_seq ?_
 refine k_block ?_
 refine k_loopF (fun sl L (X : Nat × Nat × List Ft) => ⟨setAll (setBad sl [0, 1, 8, 9, 10, 11, 12, 13, 14, 15, 16, 17, 18, 19, 20, 21, 22, 23, 24, 25, 26, 27, 28, 29, 30, 31, 32, 33, 34, 35, 36, 37, 38, 39, 40, 41, 42, 43, 44, 45, 46, 47, 48, 49, 50, 51, 52, 53, 54, 55, 56, 57, 58, 59, 60, 61, 62, 63, 64, 65, 66, 67, 68, 69, 70, 71, 72, 73, 74, 75, 76, 77, 78, 79, 80, 81, 82, 83, 84, 85, 86, 87, 88, 89, 90, 91, 92, 93, 94, 95, 96, 97, 98, 99, 100, 101, 102, 103, 104, 105, 106]) [(6, .t (num X.1)), (7, .t (num X.2.1))], Go.Ot.look (putL (.r 1 6 0) (boxO 28 [.t (.sl U.length (U.flatMap rnT)), .msl (.n 9) 0 X.2.2.length 6]) (putL (.n 9) (rowFt X.2.2) L))⟩) (fun X => X.1 ≤ a.fs.length ∧ X.2.1 ≤ b.fs.length ∧ X.2.2.length ≤ X.1 + X.2.1 ∧ X.2.2 ++ mg (jP b) (jQ a) (a.fs.drop X.1) (b.fs.drop X.2.1) = mg (jP b) (jQ a) a.fs b.fs) (fun X => (a.fs.length - X.1) + (b.fs.length - X.2.1)) ((0, 0, [])) (a_le ?_) ?_ ?_
 ·refine le_of [(.r 0 0 0, .r 0 0 0), (.r 0 1 0, .r 0 1 0), (.r 0 2 0, .r 0 2 0), (.r 1 6 0, .r 1 6 0)] ?_ ?_ ?_ <;> simp [-List.map_set, -List.map_replicate, -List.reduceReplicate, -List.map_map, -List.map_drop, -List.map_take, num, bol, txt, w8, w16, w32, w64, lst, cls, rowO, boxO, List.take_of_length_le, Wr.cellsL_len, wA, Wr.k_mk, Wr.n_mk, Wr.s_mk, Wr.l_mk, Wr.cellsL, Wr.z_eq, rnT, ftT, rowFt] <;> (try omega)
 ·exact ⟨Nat.zero_le _, Nat.zero_le _, Nat.zero_le _, rfl⟩
 ·rintro ⟨i, k, out⟩ ⟨hi, hk, hol, hI⟩
  dsimp only at hi hk hol hI ⊢
  refine a_st ?_
  refine k_seq ?_
  refine k_seq ?_
  refine k_region rfl ?_
  obtain ⟨x, hx⟩ : ∃ x, a.fs.getD i default = x := ⟨_, rfl⟩
  obtain ⟨y, hy⟩ : ∃ y, b.fs.getD k default = y := ⟨_, rfl⟩
  rcases (show i < a.fs.length ∨ (i = a.fs.length ∧ k < b.fs.length) ∨ (i = a.fs.length ∧ k = b.fs.length) by omega) with e1 | ⟨e1, e2⟩ | ⟨e1, e2⟩
  ·skip
   iterate 6 refine a_op ?_
   refine a_no ?_
   refine a_no ?_
   refine a_no ?_
   refine a_no ?_
   refine a_no ?_
   refine a_op ?_
   refine s_nil (r_false ?_)
   refine q_next ?_
   refine a_true ?_
   refine k_skip ?_
   refine q_next ?_
   refine k_block ?_
   refine k_seq ?_
   refine k_seq ?_
   refine k_region rfl ?_
   rcases (show (k = b.fs.length ∧ i < a.fs.length) ∨ (k < b.fs.length ∧ i < a.fs.length ∧ cmF x y ≤ 0) ∨ (k < b.fs.length ∧ i < a.fs.length ∧ 0 < cmF x y) by omega) with ⟨g, g2⟩ | ⟨g, g2, g3⟩ | ⟨g, g2, g3⟩
   ·have hst := mgL (P := jP b) (Q := jQ a) g2 hx (.inl g)
    have hgo := go_on hI hst
    iterate 6 refine a_opd ?_
    refine a_nod ?_
    refine a_nod ?_
    refine a_nod ?_
    refine a_nod ?_
    refine a_nod ?_
    refine a_nod ?_
    refine a_nod ?_
    refine a_nod ?_
    refine a_nod ?_
    refine a_nod ?_
    refine a_nod ?_
    refine a_nod ?_
    
    refine a_nod ?_
    refine a_nod ?_
    refine a_nod ?_
    refine a_nod ?_
    refine a_nod ?_
    refine a_nod ?_
    
    refine a_nod ?_
    refine a_nod ?_
    refine a_nod ?_
    refine a_opd ?_
    refine s_nil (r_true (by kernel_rfl) ?_)
    refine q_next ?_
    refine a_true ?_
    refine k_seq ?_
    refine k_seq ?_
    refine k_region rfl ?_
    iterate 6 refine a_op ?_
    simp only [hx]
    refine a_op ?_
    refine a_op ?_
    refine s_nil (r_false ?_)
    refine q_next ?_
    refine k_seq ?_
    refine k_region rfl ?_
    rcases (show hasB b.seen x.dev x.n = false ∨ (hasB b.seen x.dev x.n = true ∧ atB b.fs x.dev x.n = true) ∨ (hasB b.seen x.dev x.n = true ∧ atB b.fs x.dev x.n = false) by cases hasB b.seen x.dev x.n <;> cases atB b.fs x.dev x.n <;> simp) with g5 | ⟨g5, g6⟩ | ⟨g5, g6⟩
    ·have hP := jP_u g5
     have hnx := hgo.1 hP
     iterate 3 refine a_op ?_
     refine a_call [] false ((by have h := hasR_good Γ b.seen x.dev x.n (by omega); rw [g5] at h; exact h)) ?_
     refine a_op ?_
     refine a_op ?_
     refine a_no ?_
     refine a_no ?_
     refine a_no ?_
     refine a_op ?_
     refine s_nil (r_false ?_)
     refine q_next ?_
     refine a_true ?_
     refine g_start (.n 9) [73] [.r 1 6 0] rfl ?_
     refine g_op ?_
     refine g_op ?_
     refine g_op ?_
     refine g_op ?_
     refine g_op ?_
     refine g_op ?_
     refine g_op ?_
     simp only [hx]
     refine g_op ?_
     refine g_op ?_
     refine g_op ?_
     refine g_op ?_
     refine g_nil ⟨g_ok (by kernel_rfl) (by kernel_rfl), ?_⟩
     refine q_next ?_
     refine k_seq ?_
     refine k_region rfl ?_
     iterate 3 refine a_op ?_
     refine s_nil (r_false ?_)
     refine q_next ?_
     refine k_exit ?_
     refine q_seq_exit (q_block_exit (q_loopF ((i + 1, k, out ++ [x])) (a_le ?_) ?_ ?_))
     ·refine le_of [(.r 0 0 0, .r 0 0 0), (.r 0 1 0, .r 0 1 0), (.r 0 2 0, .r 0 2 0), (.r 1 6 0, .r 1 6 0), (.n 9, .n 9)] ?_ ?_ ?_ <;> simp [-List.map_set, -List.map_replicate, -List.reduceReplicate, -List.map_map, -List.map_drop, -List.map_take, num, bol, txt, w8, w16, w32, w64, lst, cls, rowO, boxO, List.take_of_length_le, Wr.cellsL_len, wA, Wr.k_mk, Wr.n_mk, Wr.s_mk, Wr.l_mk, Wr.cellsL, Wr.z_eq, rnT, ftT, rowFt, List.flatMap_append, ftT, List.map_append] <;> (try omega)
     ·exact ⟨by dsimp only; omega, by dsimp only; omega, by (simp only [List.length_append, List.length_cons, List.length_nil]); omega, hnx⟩
     ·(first | omega | (simp only []; omega))
    ·have hP := jP_v g6
     have hnx := hgo.1 hP
     iterate 3 refine a_op ?_
     refine a_call [] false ((by have h := hasR_good Γ b.seen x.dev x.n (by omega); rw [g5] at h; exact h)) ?_
     refine a_op ?_
     refine a_op ?_
     refine a_go ?_
     refine a_go ?_
     refine a_callgo [] false ((by have h := at_good Γ b x.dev x.n (by omega); rw [g6] at h; exact h)) ?_
     refine a_op ?_
     refine s_nil (r_false ?_)
     refine q_next ?_
     refine a_true ?_
     refine g_start (.n 9) [73] [.r 1 6 0] rfl ?_
     refine g_op ?_
     refine g_op ?_
     refine g_op ?_
     refine g_op ?_
     refine g_op ?_
     refine g_op ?_
     refine g_op ?_
     simp only [hx]
     refine g_op ?_
     refine g_op ?_
     refine g_op ?_
     refine g_op ?_
     refine g_nil ⟨g_ok (by kernel_rfl) (by kernel_rfl), ?_⟩
     refine q_next ?_
     refine k_seq ?_
     refine k_region rfl ?_
     iterate 3 refine a_op ?_
     refine s_nil (r_false ?_)
     refine q_next ?_
     refine k_exit ?_
     refine q_seq_exit (q_block_exit (q_loopF ((i + 1, k, out ++ [x])) (a_le ?_) ?_ ?_))
     ·refine le_of [(.r 0 0 0, .r 0 0 0), (.r 0 1 0, .r 0 1 0), (.r 0 2 0, .r 0 2 0), (.r 1 6 0, .r 1 6 0), (.n 9, .n 9)] ?_ ?_ ?_ <;> simp [-List.map_set, -List.map_replicate, -List.reduceReplicate, -List.map_map, -List.map_drop, -List.map_take, num, bol, txt, w8, w16, w32, w64, lst, cls, rowO, boxO, List.take_of_length_le, Wr.cellsL_len, wA, Wr.k_mk, Wr.n_mk, Wr.s_mk, Wr.l_mk, Wr.cellsL, Wr.z_eq, rnT, ftT, rowFt, List.flatMap_append, ftT, List.map_append] <;> (try omega)
     ·exact ⟨by dsimp only; omega, by dsimp only; omega, by (simp only [List.length_append, List.length_cons, List.length_nil]); omega, hnx⟩
     ·(first | omega | (simp only []; omega))
    ·have hP := jP_w g5 g6
     have hnx := hgo.2 (by rw [hP]; decide)
     iterate 3 refine a_op ?_
     refine a_call [] false ((by have h := hasR_good Γ b.seen x.dev x.n (by omega); rw [g5] at h; exact h)) ?_
     refine a_op ?_
     refine a_op ?_
     refine a_go ?_
     refine a_go ?_
     refine a_callgo [] false ((by have h := at_good Γ b x.dev x.n (by omega); rw [g6] at h; exact h)) ?_
     refine a_op ?_
     refine s_nil (r_false ?_)
     refine q_next ?_
     refine a_false ?_
     refine k_skip ?_
     refine q_next ?_
     refine k_seq ?_
     refine k_region rfl ?_
     iterate 3 refine a_op ?_
     refine s_nil (r_false ?_)
     refine q_next ?_
     refine k_exit ?_
     refine q_seq_exit (q_block_exit (q_loopF ((i + 1, k, out)) (a_le ?_) ?_ ?_))
     ·refine le_of [(.r 0 0 0, .r 0 0 0), (.r 0 1 0, .r 0 1 0), (.r 0 2 0, .r 0 2 0), (.r 1 6 0, .r 1 6 0), (.n 9, .n 9)] ?_ ?_ ?_ <;> simp [-List.map_set, -List.map_replicate, -List.reduceReplicate, -List.map_map, -List.map_drop, -List.map_take, num, bol, txt, w8, w16, w32, w64, lst, cls, rowO, boxO, List.take_of_length_le, Wr.cellsL_len, wA, Wr.k_mk, Wr.n_mk, Wr.s_mk, Wr.l_mk, Wr.cellsL, Wr.z_eq, rnT, ftT, rowFt, List.flatMap_append, ftT, List.map_append] <;> (try omega)
     ·exact ⟨by dsimp only; omega, by dsimp only; omega, by (simp only [List.length_append, List.length_cons, List.length_nil]); omega, hnx⟩
     ·(first | omega | (simp only []; omega))
   ·have hst := mgL (P := jP b) (Q := jQ a) g2 hx (.inr ⟨g, by rw [hy]; exact g3⟩)
    have hgo := go_on hI hst
    rw [cmF] at g3
    iterate 6 refine a_opd ?_
    refine a_god ?_
    refine a_god ?_
    refine a_god ?_
    refine a_god ?_
    refine a_god ?_
    refine a_god ?_
    refine a_god ?_
    refine a_god ?_
    refine a_god ?_
    refine a_god ?_
    refine a_god ?_
    refine a_god ?_
    simp only [hx]
    refine a_god ?_
    refine a_god ?_
    refine a_god ?_
    refine a_god ?_
    refine a_god ?_
    refine a_god ?_
    simp only [hy]
    refine a_callgod [] false (cmpR_good Γ x.dev x.n y.dev y.n) ?_
    refine a_god ?_
    refine a_god ?_
    refine a_opd ?_
    refine s_nil (r_true (by kernel_rfl) ?_)
    refine q_next ?_
    refine a_true ?_
    refine k_seq ?_
    refine k_seq ?_
    refine k_region rfl ?_
    iterate 6 refine a_op ?_
    simp only [hx]
    refine a_op ?_
    refine a_op ?_
    refine s_nil (r_false ?_)
    refine q_next ?_
    refine k_seq ?_
    refine k_region rfl ?_
    rcases (show hasB b.seen x.dev x.n = false ∨ (hasB b.seen x.dev x.n = true ∧ atB b.fs x.dev x.n = true) ∨ (hasB b.seen x.dev x.n = true ∧ atB b.fs x.dev x.n = false) by cases hasB b.seen x.dev x.n <;> cases atB b.fs x.dev x.n <;> simp) with g5 | ⟨g5, g6⟩ | ⟨g5, g6⟩
    ·have hP := jP_u g5
     have hnx := hgo.1 hP
     iterate 3 refine a_op ?_
     refine a_call [] false ((by have h := hasR_good Γ b.seen x.dev x.n (by omega); rw [g5] at h; exact h)) ?_
     refine a_op ?_
     refine a_op ?_
     refine a_no ?_
     refine a_no ?_
     refine a_no ?_
     refine a_op ?_
     refine s_nil (r_false ?_)
     refine q_next ?_
     refine a_true ?_
     refine g_start (.n 9) [73] [.r 1 6 0] rfl ?_
     refine g_op ?_
     refine g_op ?_
     refine g_op ?_
     refine g_op ?_
     refine g_op ?_
     refine g_op ?_
     refine g_op ?_
     simp only [hx]
     refine g_op ?_
     refine g_op ?_
     refine g_op ?_
     refine g_op ?_
     refine g_nil ⟨g_ok (by kernel_rfl) (by kernel_rfl), ?_⟩
     refine q_next ?_
     refine k_seq ?_
     refine k_region rfl ?_
     iterate 3 refine a_op ?_
     refine s_nil (r_false ?_)
     refine q_next ?_
     refine k_exit ?_
     refine q_seq_exit (q_block_exit (q_loopF ((i + 1, k, out ++ [x])) (a_le ?_) ?_ ?_))
     ·refine le_of [(.r 0 0 0, .r 0 0 0), (.r 0 1 0, .r 0 1 0), (.r 0 2 0, .r 0 2 0), (.r 1 6 0, .r 1 6 0), (.n 9, .n 9)] ?_ ?_ ?_ <;> simp [-List.map_set, -List.map_replicate, -List.reduceReplicate, -List.map_map, -List.map_drop, -List.map_take, num, bol, txt, w8, w16, w32, w64, lst, cls, rowO, boxO, List.take_of_length_le, Wr.cellsL_len, wA, Wr.k_mk, Wr.n_mk, Wr.s_mk, Wr.l_mk, Wr.cellsL, Wr.z_eq, rnT, ftT, rowFt, List.flatMap_append, ftT, List.map_append] <;> (try omega)
     ·exact ⟨by dsimp only; omega, by dsimp only; omega, by (simp only [List.length_append, List.length_cons, List.length_nil]); omega, hnx⟩
     ·(first | omega | (simp only []; omega))
    ·have hP := jP_v g6
     have hnx := hgo.1 hP
     iterate 3 refine a_op ?_
     refine a_call [] false ((by have h := hasR_good Γ b.seen x.dev x.n (by omega); rw [g5] at h; exact h)) ?_
     refine a_op ?_
     refine a_op ?_
     refine a_go ?_
     refine a_go ?_
     refine a_callgo [] false ((by have h := at_good Γ b x.dev x.n (by omega); rw [g6] at h; exact h)) ?_
     refine a_op ?_
     refine s_nil (r_false ?_)
     refine q_next ?_
     refine a_true ?_
     refine g_start (.n 9) [73] [.r 1 6 0] rfl ?_
     refine g_op ?_
     refine g_op ?_
     refine g_op ?_
     refine g_op ?_
     refine g_op ?_
     refine g_op ?_
     refine g_op ?_
     simp only [hx]
     refine g_op ?_
     refine g_op ?_
     refine g_op ?_
     refine g_op ?_
     refine g_nil ⟨g_ok (by kernel_rfl) (by kernel_rfl), ?_⟩
     refine q_next ?_
     refine k_seq ?_
     refine k_region rfl ?_
     iterate 3 refine a_op ?_
     refine s_nil (r_false ?_)
     refine q_next ?_
     refine k_exit ?_
     refine q_seq_exit (q_block_exit (q_loopF ((i + 1, k, out ++ [x])) (a_le ?_) ?_ ?_))
     ·refine le_of [(.r 0 0 0, .r 0 0 0), (.r 0 1 0, .r 0 1 0), (.r 0 2 0, .r 0 2 0), (.r 1 6 0, .r 1 6 0), (.n 9, .n 9)] ?_ ?_ ?_ <;> simp [-List.map_set, -List.map_replicate, -List.reduceReplicate, -List.map_map, -List.map_drop, -List.map_take, num, bol, txt, w8, w16, w32, w64, lst, cls, rowO, boxO, List.take_of_length_le, Wr.cellsL_len, wA, Wr.k_mk, Wr.n_mk, Wr.s_mk, Wr.l_mk, Wr.cellsL, Wr.z_eq, rnT, ftT, rowFt, List.flatMap_append, ftT, List.map_append] <;> (try omega)
     ·exact ⟨by dsimp only; omega, by dsimp only; omega, by (simp only [List.length_append, List.length_cons, List.length_nil]); omega, hnx⟩
     ·(first | omega | (simp only []; omega))
    ·have hP := jP_w g5 g6
     have hnx := hgo.2 (by rw [hP]; decide)
     iterate 3 refine a_op ?_
     refine a_call [] false ((by have h := hasR_good Γ b.seen x.dev x.n (by omega); rw [g5] at h; exact h)) ?_
     refine a_op ?_
     refine a_op ?_
     refine a_go ?_
     refine a_go ?_
     refine a_callgo [] false ((by have h := at_good Γ b x.dev x.n (by omega); rw [g6] at h; exact h)) ?_
     refine a_op ?_
     refine s_nil (r_false ?_)
     refine q_next ?_
     refine a_false ?_
     refine k_skip ?_
     refine q_next ?_
     refine k_seq ?_
     refine k_region rfl ?_
     iterate 3 refine a_op ?_
     refine s_nil (r_false ?_)
     refine q_next ?_
     refine k_exit ?_
     refine q_seq_exit (q_block_exit (q_loopF ((i + 1, k, out)) (a_le ?_) ?_ ?_))
     ·refine le_of [(.r 0 0 0, .r 0 0 0), (.r 0 1 0, .r 0 1 0), (.r 0 2 0, .r 0 2 0), (.r 1 6 0, .r 1 6 0), (.n 9, .n 9)] ?_ ?_ ?_ <;> simp [-List.map_set, -List.map_replicate, -List.reduceReplicate, -List.map_map, -List.map_drop, -List.map_take, num, bol, txt, w8, w16, w32, w64, lst, cls, rowO, boxO, List.take_of_length_le, Wr.cellsL_len, wA, Wr.k_mk, Wr.n_mk, Wr.s_mk, Wr.l_mk, Wr.cellsL, Wr.z_eq, rnT, ftT, rowFt, List.flatMap_append, ftT, List.map_append] <;> (try omega)
     ·exact ⟨by dsimp only; omega, by dsimp only; omega, by (simp only [List.length_append, List.length_cons, List.length_nil]); omega, hnx⟩
     ·(first | omega | (simp only []; omega))
   ·have hst := mgR (P := jP b) (Q := jQ a) g hy (.inr ⟨g2, by rw [hx]; exact g3⟩)
    have hgo := go_on hI hst
    rw [cmF] at g3
    iterate 6 refine a_opd ?_
    refine a_god ?_
    refine a_god ?_
    refine a_god ?_
    refine a_god ?_
    refine a_god ?_
    refine a_god ?_
    refine a_god ?_
    refine a_god ?_
    refine a_god ?_
    refine a_god ?_
    refine a_god ?_
    refine a_god ?_
    simp only [hx]
    refine a_god ?_
    refine a_god ?_
    refine a_god ?_
    refine a_god ?_
    refine a_god ?_
    refine a_god ?_
    simp only [hy]
    refine a_callgod [] false (cmpR_good Γ x.dev x.n y.dev y.n) ?_
    refine a_god ?_
    refine a_god ?_
    refine a_opd ?_
    refine s_nil (r_true (by kernel_rfl) ?_)
    refine q_next ?_
    refine a_false ?_
    refine k_skip ?_
    refine q_next ?_
    refine k_seq ?_
    refine k_seq ?_
    refine k_region rfl ?_
    iterate 6 refine a_op ?_
    simp only [hy]
    refine a_op ?_
    refine a_op ?_
    refine s_nil (r_false ?_)
    refine q_next ?_
    refine k_seq ?_
    refine k_region rfl ?_
    rcases g5 : hasB a.seen y.dev y.n with _ | _
    ·have hQ := jQ_u g5
     have hnx := hgo.1 hQ
     iterate 3 refine a_op ?_
     refine a_call [] false ((by have h := hasR_good Γ a.seen y.dev y.n (by omega); rw [g5] at h; exact h)) ?_
     refine a_op ?_
     refine s_nil (r_false ?_)
     refine q_next ?_
     refine a_true ?_
     refine g_start (.n 9) [96] [.r 1 6 0] rfl ?_
     refine g_op ?_
     refine g_op ?_
     refine g_op ?_
     refine g_op ?_
     refine g_op ?_
     refine g_op ?_
     refine g_op ?_
     simp only [hy]
     refine g_op ?_
     refine g_op ?_
     refine g_op ?_
     refine g_op ?_
     refine g_nil ⟨g_ok (by kernel_rfl) (by kernel_rfl), ?_⟩
     refine q_next ?_
     refine k_region rfl ?_
     iterate 3 refine a_op ?_
     refine s_nil (r_false ?_)
     refine q_block (q_loopF ((i, k + 1, out ++ [y])) (a_le ?_) ?_ ?_)
     ·refine le_of [(.r 0 0 0, .r 0 0 0), (.r 0 1 0, .r 0 1 0), (.r 0 2 0, .r 0 2 0), (.r 1 6 0, .r 1 6 0), (.n 9, .n 9)] ?_ ?_ ?_ <;> simp [-List.map_set, -List.map_replicate, -List.reduceReplicate, -List.map_map, -List.map_drop, -List.map_take, num, bol, txt, w8, w16, w32, w64, lst, cls, rowO, boxO, List.take_of_length_le, Wr.cellsL_len, wA, Wr.k_mk, Wr.n_mk, Wr.s_mk, Wr.l_mk, Wr.cellsL, Wr.z_eq, rnT, ftT, rowFt, List.flatMap_append, ftT, List.map_append] <;> (try omega)
     ·exact ⟨by dsimp only; omega, by dsimp only; omega, by (simp only [List.length_append, List.length_cons, List.length_nil]); omega, hnx⟩
     ·(first | omega | (simp only []; omega))
    ·have hQ := jQ_w g5
     have hnx := hgo.2 (by rw [hQ]; decide)
     iterate 3 refine a_op ?_
     refine a_call [] false ((by have h := hasR_good Γ a.seen y.dev y.n (by omega); rw [g5] at h; exact h)) ?_
     refine a_op ?_
     refine s_nil (r_false ?_)
     refine q_next ?_
     refine a_false ?_
     refine k_skip ?_
     refine q_next ?_
     refine k_region rfl ?_
     iterate 3 refine a_op ?_
     refine s_nil (r_false ?_)
     refine q_block (q_loopF ((i, k + 1, out)) (a_le ?_) ?_ ?_)
     ·refine le_of [(.r 0 0 0, .r 0 0 0), (.r 0 1 0, .r 0 1 0), (.r 0 2 0, .r 0 2 0), (.r 1 6 0, .r 1 6 0), (.n 9, .n 9)] ?_ ?_ ?_ <;> simp [-List.map_set, -List.map_replicate, -List.reduceReplicate, -List.map_map, -List.map_drop, -List.map_take, num, bol, txt, w8, w16, w32, w64, lst, cls, rowO, boxO, List.take_of_length_le, Wr.cellsL_len, wA, Wr.k_mk, Wr.n_mk, Wr.s_mk, Wr.l_mk, Wr.cellsL, Wr.z_eq, rnT, ftT, rowFt, List.flatMap_append, ftT, List.map_append] <;> (try omega)
     ·exact ⟨by dsimp only; omega, by dsimp only; omega, by (simp only [List.length_append, List.length_cons, List.length_nil]); omega, hnx⟩
     ·(first | omega | (simp only []; omega))
  ·skip
   iterate 6 refine a_op ?_
   refine a_go ?_
   refine a_go ?_
   refine a_go ?_
   refine a_go ?_
   refine a_go ?_
   refine a_op ?_
   refine s_nil (r_false ?_)
   refine q_next ?_
   refine a_true ?_
   refine k_skip ?_
   refine q_next ?_
   refine k_block ?_
   refine k_seq ?_
   refine k_seq ?_
   refine k_region rfl ?_
   rcases (show k < b.fs.length ∧ i = a.fs.length from ⟨e2, e1⟩) with ⟨g, g2⟩
   ·have hst := mgR (P := jP b) (Q := jQ a) g hy (.inl g2)
    have hgo := go_on hI hst
    iterate 6 refine a_opd ?_
    refine a_god ?_
    refine a_god ?_
    refine a_god ?_
    refine a_god ?_
    refine a_god ?_
    refine a_god ?_
    refine a_nod ?_
    refine a_nod ?_
    refine a_nod ?_
    refine a_nod ?_
    refine a_nod ?_
    refine a_nod ?_
    
    refine a_nod ?_
    refine a_nod ?_
    refine a_nod ?_
    refine a_nod ?_
    refine a_nod ?_
    refine a_nod ?_
    
    refine a_nod ?_
    refine a_nod ?_
    refine a_god ?_
    refine a_opd ?_
    refine s_nil (r_true (by kernel_rfl) ?_)
    refine q_next ?_
    refine a_false ?_
    refine k_skip ?_
    refine q_next ?_
    refine k_seq ?_
    refine k_seq ?_
    refine k_region rfl ?_
    iterate 6 refine a_op ?_
    simp only [hy]
    refine a_op ?_
    refine a_op ?_
    refine s_nil (r_false ?_)
    refine q_next ?_
    refine k_seq ?_
    refine k_region rfl ?_
    rcases g5 : hasB a.seen y.dev y.n with _ | _
    ·have hQ := jQ_u g5
     have hnx := hgo.1 hQ
     iterate 3 refine a_op ?_
     refine a_call [] false ((by have h := hasR_good Γ a.seen y.dev y.n (by omega); rw [g5] at h; exact h)) ?_
     refine a_op ?_
     refine s_nil (r_false ?_)
     refine q_next ?_
     refine a_true ?_
     refine g_start (.n 9) [96] [.r 1 6 0] rfl ?_
     refine g_op ?_
     refine g_op ?_
     refine g_op ?_
     refine g_op ?_
     refine g_op ?_
     refine g_op ?_
     refine g_op ?_
     simp only [hy]
     refine g_op ?_
     refine g_op ?_
     refine g_op ?_
     refine g_op ?_
     refine g_nil ⟨g_ok (by kernel_rfl) (by kernel_rfl), ?_⟩
     refine q_next ?_
     refine k_region rfl ?_
     iterate 3 refine a_op ?_
     refine s_nil (r_false ?_)
     refine q_block (q_loopF ((i, k + 1, out ++ [y])) (a_le ?_) ?_ ?_)
     ·refine le_of [(.r 0 0 0, .r 0 0 0), (.r 0 1 0, .r 0 1 0), (.r 0 2 0, .r 0 2 0), (.r 1 6 0, .r 1 6 0), (.n 9, .n 9)] ?_ ?_ ?_ <;> simp [-List.map_set, -List.map_replicate, -List.reduceReplicate, -List.map_map, -List.map_drop, -List.map_take, num, bol, txt, w8, w16, w32, w64, lst, cls, rowO, boxO, List.take_of_length_le, Wr.cellsL_len, wA, Wr.k_mk, Wr.n_mk, Wr.s_mk, Wr.l_mk, Wr.cellsL, Wr.z_eq, rnT, ftT, rowFt, List.flatMap_append, ftT, List.map_append] <;> (try omega)
     ·exact ⟨by dsimp only; omega, by dsimp only; omega, by (simp only [List.length_append, List.length_cons, List.length_nil]); omega, hnx⟩
     ·(first | omega | (simp only []; omega))
    ·have hQ := jQ_w g5
     have hnx := hgo.2 (by rw [hQ]; decide)
     iterate 3 refine a_op ?_
     refine a_call [] false ((by have h := hasR_good Γ a.seen y.dev y.n (by omega); rw [g5] at h; exact h)) ?_
     refine a_op ?_
     refine s_nil (r_false ?_)
     refine q_next ?_
     refine a_false ?_
     refine k_skip ?_
     refine q_next ?_
     refine k_region rfl ?_
     iterate 3 refine a_op ?_
     refine s_nil (r_false ?_)
     refine q_block (q_loopF ((i, k + 1, out)) (a_le ?_) ?_ ?_)
     ·refine le_of [(.r 0 0 0, .r 0 0 0), (.r 0 1 0, .r 0 1 0), (.r 0 2 0, .r 0 2 0), (.r 1 6 0, .r 1 6 0), (.n 9, .n 9)] ?_ ?_ ?_ <;> simp [-List.map_set, -List.map_replicate, -List.reduceReplicate, -List.map_map, -List.map_drop, -List.map_take, num, bol, txt, w8, w16, w32, w64, lst, cls, rowO, boxO, List.take_of_length_le, Wr.cellsL_len, wA, Wr.k_mk, Wr.n_mk, Wr.s_mk, Wr.l_mk, Wr.cellsL, Wr.z_eq, rnT, ftT, rowFt, List.flatMap_append, ftT, List.map_append] <;> (try omega)
     ·exact ⟨by dsimp only; omega, by dsimp only; omega, by (simp only [List.length_append, List.length_cons, List.length_nil]); omega, hnx⟩
     ·(first | omega | (simp only []; omega))
  ·skip
   iterate 6 refine a_op ?_
   refine a_go ?_
   refine a_go ?_
   refine a_go ?_
   refine a_go ?_
   refine a_go ?_
   refine a_op ?_
   refine s_nil (r_false ?_)
   refine q_next ?_
   refine a_false ?_
   refine k_exit ?_
   refine q_seq_exit (q_loopF_exit (q_block_exit (q_next ?_)))
   refine k_seq ?_
   refine k_region rfl ?_
   have hq : (joF a b).fs = out := by
    have h := mgE (P := jP b) (Q := jQ a) (l := a.fs) (m := b.fs) e1 e2
    rw [h, List.append_nil] at hI
    exact hI.symm
   have hq2 : (joF a b).seen = U := hU
   have hal := ft_all (l := out) rfl
   refine a_op ?_
   refine a_op ?_
   refine s_nil (r_false ?_)
   refine q_next ?_
   refine k_ret ?_
   refine ⟨.inr rfl, a_ret [] (by rw [results14]) ?_ ?_ ?_⟩ <;> simp [-List.map_set, -List.map_replicate, -List.reduceReplicate, -List.map_map, -List.map_drop, -List.map_take, num, bol, txt, w8, w16, w32, w64, lst, cls, rowO, boxO, List.take_of_length_le, Wr.cellsL_len, wA, Wr.k_mk, Wr.n_mk, Wr.s_mk, Wr.l_mk, Wr.cellsL, Wr.z_eq, rnT, ftT, hq, hq2, hal, fts_len, -List.length_flatMap]

end Go.Proofs.Tryd
