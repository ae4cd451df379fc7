/- Contracts of this program's functions. -/
import Derived.Test.YtlacdlafoclaeaaDoorSQ3
import Derived.Test.YtlacdlafoclaeaaDoorSQ7
import Derived.Test.YtlacdlafoclaeaaDoorSQ8
set_option maxHeartbeats 4000000
set_option maxRecDepth 100000
set_option linter.unusedVariables false
set_option linter.unusedSimpArgs false
namespace Go.Proofs.Tryd
open Go Go.Ot
attribute [local irreducible] wpK wpS seqK blockK loopF regK meetK OpSpec Le rdS lpW rdW got mayS mayW ixF putS putW nb nbS u64 fmT PutW Rq.p Rp.p GQ GP tsz wTs greatL
theorem q_weakF {Γ : Gl} {P : Program} {Q : Exit → St → Prop} {b : Code} {sl : List D} {L : List (Nm × Ob)} (f : List D → List (Nm × Ob) → St) (hle : Le Γ ⟨sl, Go.Ot.look L⟩ (f sl L)) (h : wpK Γ P b Q (f sl L)) : seqK Γ P b Q .normal ⟨sl, Go.Ot.look L⟩ := q_weak hle h
theorem back_law_good (Γ : Gl) (hE : EG Γ) (r : Rq) (y : Rp) (cut at_ : UInt16) (b_ : UInt8) (hr : r.b.length ≤ 9223372036854775807) (hyl : y.l.length ≤ 9223372036854775807) (or : r.ok) (oy : y.ok) : Go.Ot.Good Γ prog 4 [qA r, pA y, .t (w16 cut), .t (w16 at_), .t (w8 b_)] [] (.t (bol true)) [] [] := by
  refine a_body F.mix func4 (by rfl) ntmps4 ?_
  refine k_seq ?_
  refine k_region rfl ?_
  iterate 3 refine a_op ?_
  refine s_nil (r_false ?_)
  refine q_next ?_
  refine k_seq ?_
  refine k_seq ?_
  refine k_region rfl ?_
  have h5 : 600 < r.b.length ∨ (r.b.length ≤ 600 ∧ greatL y.l = true) ∨ (r.b.length ≤ 600 ∧ greatL y.l = false ∧ b_ = 0) ∨ (r.b.length ≤ 600 ∧ greatL y.l = false ∧ b_ ≠ 0) := by
    by_cases hb : b_ = 0 <;> cases hy : greatL y.l <;> simp [hb] <;> omega
  rcases h5 with ha | ⟨ha, hy⟩ | ⟨ha, hy, rfl⟩ | ⟨ha, hy, hb⟩
  · try (have hbn : b_.toNat ≠ 0 := fun e => hb (UInt8.toNat_inj.1 e))
    iterate 5 refine a_op ?_
    refine a_no ?_
    refine a_no ?_
    refine a_no ?_
    refine a_op ?_
    refine a_op ?_
    refine a_no ?_
    refine a_no ?_
    refine a_op ?_
    refine s_nil (r_false ?_)
    refine q_next ?_
    refine a_true ?_
    refine k_seq ?_
    refine k_region rfl ?_
    refine a_call [] false (awake_good Γ hE) ?_
    refine a_op ?_
    refine s_nil (r_false ?_)
    refine q_next ?_
    refine k_ret ?_
    refine q_seq_ret ?_
    refine ⟨.inr rfl, a_ret [] (by rw [results4]) ?_ ?_ ?_⟩ <;> simp [-List.map_set, -List.map_replicate, -List.reduceReplicate, -List.map_map, -List.map_drop, -List.map_take, num, bol, txt, w8, w16, w32, w64, lst, cls, rowO, boxO, List.take_of_length_le, Wr.cellsL_len, wA, Wr.k_mk, Wr.n_mk, Wr.s_mk, Wr.l_mk, Wr.cellsL, Wr.z_eq]
  · try (have hbn : b_.toNat ≠ 0 := fun e => hb (UInt8.toNat_inj.1 e))
    iterate 5 refine a_op ?_
    refine a_go ?_
    refine a_go ?_
    refine a_callgo [] false ((by have h := great_good Γ y.l (by omega); rw [hy] at h; exact h)) ?_
    refine a_op ?_
    refine a_op ?_
    refine a_no ?_
    refine a_no ?_
    refine a_op ?_
    refine s_nil (r_false ?_)
    refine q_next ?_
    refine a_true ?_
    refine k_seq ?_
    refine k_region rfl ?_
    refine a_call [] false (awake_good Γ hE) ?_
    refine a_op ?_
    refine s_nil (r_false ?_)
    refine q_next ?_
    refine k_ret ?_
    refine q_seq_ret ?_
    refine ⟨.inr rfl, a_ret [] (by rw [results4]) ?_ ?_ ?_⟩ <;> simp [-List.map_set, -List.map_replicate, -List.reduceReplicate, -List.map_map, -List.map_drop, -List.map_take, num, bol, txt, w8, w16, w32, w64, lst, cls, rowO, boxO, List.take_of_length_le, Wr.cellsL_len, wA, Wr.k_mk, Wr.n_mk, Wr.s_mk, Wr.l_mk, Wr.cellsL, Wr.z_eq]
  · try (have hbn : b_.toNat ≠ 0 := fun e => hb (UInt8.toNat_inj.1 e))
    iterate 5 refine a_op ?_
    refine a_go ?_
    refine a_go ?_
    refine a_callgo [] false ((by have h := great_good Γ y.l (by omega); rw [hy] at h; exact h)) ?_
    refine a_op ?_
    refine a_op ?_
    refine a_go ?_
    refine a_go ?_
    refine a_op ?_
    refine s_nil (r_false ?_)
    refine q_next ?_
    refine a_true ?_
    refine k_seq ?_
    refine k_region rfl ?_
    refine a_call [] false (awake_good Γ hE) ?_
    refine a_op ?_
    refine s_nil (r_false ?_)
    refine q_next ?_
    refine k_ret ?_
    refine q_seq_ret ?_
    refine ⟨.inr rfl, a_ret [] (by rw [results4]) ?_ ?_ ?_⟩ <;> simp [-List.map_set, -List.map_replicate, -List.reduceReplicate, -List.map_map, -List.map_drop, -List.map_take, num, bol, txt, w8, w16, w32, w64, lst, cls, rowO, boxO, List.take_of_length_le, Wr.cellsL_len, wA, Wr.k_mk, Wr.n_mk, Wr.s_mk, Wr.l_mk, Wr.cellsL, Wr.z_eq]
  · try (have hbn : b_.toNat ≠ 0 := fun e => hb (UInt8.toNat_inj.1 e))
    iterate 5 refine a_op ?_
    refine a_go ?_
    refine a_go ?_
    refine a_callgo [] false ((by have h := great_good Γ y.l (by omega); rw [hy] at h; exact h)) ?_
    refine a_op ?_
    refine a_op ?_
    refine a_go ?_
    refine a_go ?_
    refine a_op ?_
    refine s_nil (r_false ?_)
    refine q_next ?_
    refine a_false ?_
    refine k_skip ?_
    refine q_next ?_
    refine k_seq ?_
    refine k_region rfl ?_
    obtain ⟨m1, f1⟩ := rq_fit ha
    obtain ⟨m3, f3, t3, n3⟩ := rp_fit hy
    obtain ⟨q1, q2, q3, q4⟩ := rq_back m1 or
    obtain ⟨p1, p2, p3, p4⟩ := rp_back m3 oy
    have hc16 := UInt16.toNat_lt cut
    have ha16 := UInt16.toNat_lt at_
    refine a_opd ?_
    refine a_calld [] false (rqPut_good Γ r) ?_
    refine a_opd ?_
    refine a_calld [] false (rpPut_good Γ y (by omega) (by omega)) ?_
    refine a_opd ?_
    refine a_opd ?_
    refine s_nil (r_true (by kernel_rfl) ?_)
    refine q_next ?_
    refine k_seq ?_
    refine k_region rfl ?_
    refine a_op ?_
    refine a_call [] false ((by have h := Getq_good Γ hE (r.p) (by omega); rw [q1, ansQ_some] at h; exact h)) ?_
    iterate 6 refine a_op ?_
    refine s_nil (r_false ?_)
    refine q_next ?_
    refine k_seq ?_
    refine k_region rfl ?_
    refine a_op ?_
    refine a_call [] true ((by have h := Getp_good Γ hE (y.p) (by omega); rw [p1, ansP_some] at h; exact h)) ?_
    iterate 6 refine a_op ?_
    refine s_nil (r_false ?_)
    refine q_next ?_
    refine k_seq ?_
    refine k_seq ?_
    refine k_region rfl ?_
    iterate 3 refine a_op ?_
    refine a_go ?_
    refine a_go ?_
    refine a_eqsgo _ ?_ (nq_rq (q := r) (r := r) (b := false) (by simp))
    refine a_op ?_
    refine a_op ?_
    refine a_go ?_
    refine a_go ?_
    refine a_op ?_
    refine a_op ?_
    refine a_go ?_
    refine a_go ?_
    refine a_callgo [] false ((by have h := SameReply_good Γ y y (by omega); rw [decide_eq_true rfl] at h; exact h)) ?_
    refine a_go ?_
    refine a_op ?_
    refine a_op ?_
    refine a_go ?_
    refine a_go (hs := by (simp only [push_cast, q2] <;> rfl)) ?_
    refine a_op ?_
    refine a_op ?_
    refine a_go ?_
    refine a_go (hs := by (simp only [push_cast, p2] <;> rfl)) ?_
    refine a_op ?_
    refine s_nil (r_false ?_)
    refine q_next ?_
    refine a_false ?_
    refine k_skip ?_
    refine q_next ?_
    refine k_seq ?_
    refine k_region rfl ?_
    have hposX : 0 < r.p.length := by omega
    obtain ⟨X, hX⟩ : ∃ X, cut.toNat % r.p.length = X := ⟨_, rfl⟩
    obtain ⟨Y, hY⟩ : ∃ X, at_.toNat % r.p.length = X := ⟨_, rfl⟩
    have hlX : X < r.p.length := by rw [← hX]; exact Nat.mod_lt _ hposX
    have hlY : Y < r.p.length := by rw [← hY]; exact Nat.mod_lt _ hposX
    have tX := tmod_nat cut.toNat r.p.length
    have tY := tmod_nat at_.toNat r.p.length
    have uX := (Int.natCast_emod cut.toNat r.p.length).symm
    have uY := (Int.natCast_emod at_.toNat r.p.length).symm
    rw [hX] at tX uX
    rw [hY] at tY uY
    have hposU : 0 < y.p.length := by omega
    obtain ⟨U, hU⟩ : ∃ X, cut.toNat % y.p.length = X := ⟨_, rfl⟩
    obtain ⟨V, hV⟩ : ∃ X, at_.toNat % y.p.length = X := ⟨_, rfl⟩
    have hlU : U < y.p.length := by rw [← hU]; exact Nat.mod_lt _ hposU
    have hlV : V < y.p.length := by rw [← hV]; exact Nat.mod_lt _ hposU
    have tU := tmod_nat cut.toNat y.p.length
    have tV := tmod_nat at_.toNat y.p.length
    have uU := (Int.natCast_emod cut.toNat y.p.length).symm
    have uV := (Int.natCast_emod at_.toNat y.p.length).symm
    rw [hU] at tU uU
    rw [hV] at tV uV
    iterate 5 refine a_op ?_
    refine a_op (hs := by (simp (disch := first | omega | (simp only [List.length_drop, List.length_take, List.length_map, List.length_append, List.length_cons, List.length_nil, List.length_replicate, List.length_set] <;> omega) | (simp only [push_cast] <;> omega) | fail) only [push_cast, reduceCtorEq, Nat.reduceAdd, Nat.reduceSub, Nat.reduceMul, Nat.reduceEqDiff, Nat.reduceLT, Nat.reduceLeDiff, Nat.reduceMod, Nat.reduceDiv, Int.reduceLE, Int.reduceLT, Int.reduceEq, Int.reduceToNat, Int.reduceAdd, Int.reduceSub, Int.reduceMul, Int.reduceNeg, tX, uX] <;> rfl)) ?_
    refine a_op ?_
    refine a_call [] false ((by have h := Getq_good Γ hE (r.p.take X) (by rw [List.length_take]; omega); rw [q3 X hlX, ansQ_none] at h; exact h)) ?_
    iterate 6 refine a_op ?_
    refine s_nil (r_false ?_)
    refine q_next ?_
    refine k_seq ?_
    refine k_region rfl ?_
    iterate 5 refine a_op ?_
    refine a_op (hs := by (simp (disch := first | omega | (simp only [List.length_drop, List.length_take, List.length_map, List.length_append, List.length_cons, List.length_nil, List.length_replicate, List.length_set] <;> omega) | (simp only [push_cast] <;> omega) | fail) only [push_cast, reduceCtorEq, Nat.reduceAdd, Nat.reduceSub, Nat.reduceMul, Nat.reduceEqDiff, Nat.reduceLT, Nat.reduceLeDiff, Nat.reduceMod, Nat.reduceDiv, Int.reduceLE, Int.reduceLT, Int.reduceEq, Int.reduceToNat, Int.reduceAdd, Int.reduceSub, Int.reduceMul, Int.reduceNeg, tU, uU] <;> rfl)) ?_
    refine a_op ?_
    refine a_call [] true ((by have h := Getp_good Γ hE (y.p.take U) (by rw [List.length_take]; omega); rw [p3 U hlU, ansP_none] at h; exact h)) ?_
    iterate 6 refine a_op ?_
    refine s_nil (r_false ?_)
    refine q_next ?_
    refine k_seq ?_
    refine k_region rfl ?_
    refine a_op ?_
    refine a_op ?_
    refine a_call [] false ((by have h := Getq_good Γ hE (r.p ++ [0]) (by rw [List.length_append]; simp; omega); rw [q4, ansQ_none] at h; exact h)) ?_
    iterate 6 refine a_op ?_
    refine s_nil (r_false ?_)
    refine q_next ?_
    refine k_seq ?_
    refine k_region rfl ?_
    refine a_op ?_
    refine a_op ?_
    refine a_call [] true ((by have h := Getp_good Γ hE (y.p ++ [0]) (by rw [List.length_append]; simp; omega); rw [p4, ansP_none] at h; exact h)) ?_
    iterate 6 refine a_op ?_
    refine s_nil (r_false ?_)
    refine q_next ?_
    refine k_seq ?_
    refine k_region rfl ?_
    iterate 6 refine a_op ?_
    refine s_nil (r_false ?_)
    refine q_next ?_
    refine k_seq ?_
    refine k_region rfl ?_
    iterate 5 refine a_op ?_
    refine a_op (hs := by (simp (disch := first | omega | (simp only [List.length_drop, List.length_take, List.length_map, List.length_append, List.length_cons, List.length_nil, List.length_replicate, List.length_set] <;> omega) | (simp only [push_cast] <;> omega) | fail) only [push_cast, reduceCtorEq, Nat.reduceAdd, Nat.reduceSub, Nat.reduceMul, Nat.reduceEqDiff, Nat.reduceLT, Nat.reduceLeDiff, Nat.reduceMod, Nat.reduceDiv, Int.reduceLE, Int.reduceLT, Int.reduceEq, Int.reduceToNat, Int.reduceAdd, Int.reduceSub, Int.reduceMul, Int.reduceNeg, tY, uY] <;> rfl)) ?_
    iterate 6 refine a_op ?_
    refine s_nil (r_false ?_)
    refine q_next ?_
    refine k_seq ?_
    refine k_region rfl ?_
    iterate 5 refine a_op ?_
    refine a_op (hs := by (simp (disch := first | omega | (simp only [List.length_drop, List.length_take, List.length_map, List.length_append, List.length_cons, List.length_nil, List.length_replicate, List.length_set] <;> omega) | (simp only [push_cast] <;> omega) | fail) only [push_cast, reduceCtorEq, Nat.reduceAdd, Nat.reduceSub, Nat.reduceMul, Nat.reduceEqDiff, Nat.reduceLT, Nat.reduceLeDiff, Nat.reduceMod, Nat.reduceDiv, Int.reduceLE, Int.reduceLT, Int.reduceEq, Int.reduceToNat, Int.reduceAdd, Int.reduceSub, Int.reduceMul, Int.reduceNeg, tV, uV] <;> rfl)) ?_
    iterate 6 refine a_op ?_
    refine s_nil (r_false ?_)
    refine q_weakF (fun sl L => ⟨setBad sl [0, 1, 2, 3, 4, 10, 11, 12, 13, 14, 15, 16, 17, 19, 21, 23, 31, 32, 33, 34, 35, 36, 37, 38, 39, 40, 41, 42, 43, 44, 45, 46, 47, 48, 49, 50, 51, 52, 53, 54, 55, 56, 57, 58, 59, 60, 61, 62, 63, 64, 65, 66, 67, 68, 69, 70, 71, 72, 73, 74, 75, 76, 77, 78, 79, 80, 81, 82, 83, 84, 85, 86, 87, 88, 89, 90, 91, 92, 93, 94, 95, 96, 97, 98, 99, 100, 101, 102, 103, 104, 105, 106, 107, 108, 109, 110, 111, 112, 113, 114, 115, 116, 117, 118, 119, 120, 121, 122, 123, 124, 125, 126, 127, 128, 129, 130, 131, 132, 133, 134, 135, 136, 137, 138, 139, 140, 141, 142, 143], Go.Ot.look (putL (.r 0 0 0) (boxO 23 [.t (num r.k), .t (num r.d), .t (num r.n), .t (txt r.b)]) (putL (.r 0 1 0) (boxO 27 [.t (num y.k), .t (num y.d), .t (num y.n), .t (lst txt y.l)]) (putL (.r 12 1 0) (rowO 5 w8 (r.p.set Y (r.p.getD Y 0 ^^^ b_))) (putL (.r 12 3 0) (rowO 5 w8 (y.p.set V (y.p.getD V 0 ^^^ b_))) []))))⟩) (a_le ?_) (a_st ?_)
    · refine le_of [(.r 0 0 0, .r 0 0 0), (.r 0 1 0, .r 0 1 0), (.r 12 1 0, .r 12 1 0), (.r 12 3 0, .r 12 3 0)] ?_ ?_ ?_ <;> simp [-List.map_set, -List.map_replicate, -List.reduceReplicate, -List.map_map, -List.map_drop, -List.map_take, num, bol, txt, w8, w16, w32, w64, lst, cls, rowO, boxO, List.take_of_length_le, Wr.cellsL_len, wA, Wr.k_mk, Wr.n_mk, Wr.s_mk, Wr.l_mk, Wr.cellsL, Wr.z_eq]
    refine k_seq ?_
    refine k_region rfl ?_
    rcases hq : GQ (r.p.set Y (r.p.getD Y 0 ^^^ b_)) with _ | q <;> rcases hp : GP (y.p.set V (y.p.getD V 0 ^^^ b_)) with _ | p
    · (try have hqn := rq_turned hlY hb hq); (try have hpn := rp_turned hlV hb hp); (try have hpl := gp_len hp); try rw [List.length_set] at hpl
      refine a_op ?_
      first | refine a_text ?_ | refine a_texts ?_
      refine a_call [] false ((by have h := Getq_good Γ hE ((r.p.set Y (r.p.getD Y 0 ^^^ b_))) (by rw [List.length_set]; omega); rw [hq, ansQ_none] at h; exact h)) ?_
      iterate 6 refine a_op ?_
      refine s_nil (r_false ?_)
      refine q_next ?_
      refine k_seq ?_
      refine k_region rfl ?_
      refine a_op ?_
      first | refine a_text ?_ | refine a_texts ?_
      refine a_call [] true ((by have h := Getp_good Γ hE ((y.p.set V (y.p.getD V 0 ^^^ b_))) (by rw [List.length_set]; omega); rw [hp, ansP_none] at h; exact h)) ?_
      iterate 6 refine a_op ?_
      refine s_nil (r_false ?_)
      refine q_next ?_
      refine k_seq ?_
      refine k_region rfl ?_
      iterate 3 refine a_op ?_
      refine a_go ?_
      refine a_go ?_
      refine a_op ?_
      refine a_op ?_
      refine a_go ?_
      refine a_go ?_
      refine a_op ?_
      refine a_op ?_
      refine a_go ?_
      refine a_go ?_
      refine a_op ?_
      refine a_op ?_
      refine a_go ?_
      refine a_go ?_
      refine a_go ?_
      refine a_no ?_
      refine a_no ?_
      refine a_no ?_
      refine a_go ?_
      refine a_op ?_
      refine a_op ?_
      refine a_go ?_
      refine a_go ?_
      refine a_go ?_
      refine a_no ?_
      refine a_no ?_
      refine a_no ?_
      refine a_no ?_
      refine a_go ?_
      refine a_op ?_
      refine a_op ?_
      refine a_callgo [] false (awake_good Γ hE) ?_
      refine a_op ?_
      refine a_op ?_
      refine s_nil (r_false ?_)
      refine q_next ?_
      refine k_ret ?_
      refine ⟨.inr rfl, a_ret [] (by rw [results4]) ?_ ?_ ?_⟩ <;> simp [-List.map_set, -List.map_replicate, -List.reduceReplicate, -List.map_map, -List.map_drop, -List.map_take, num, bol, txt, w8, w16, w32, w64, lst, cls, rowO, boxO, List.take_of_length_le, Wr.cellsL_len, wA, Wr.k_mk, Wr.n_mk, Wr.s_mk, Wr.l_mk, Wr.cellsL, Wr.z_eq]
    · (try have hqn := rq_turned hlY hb hq); (try have hpn := rp_turned hlV hb hp); (try have hpl := gp_len hp); try rw [List.length_set] at hpl
      refine a_op ?_
      first | refine a_text ?_ | refine a_texts ?_
      refine a_call [] false ((by have h := Getq_good Γ hE ((r.p.set Y (r.p.getD Y 0 ^^^ b_))) (by rw [List.length_set]; omega); rw [hq, ansQ_none] at h; exact h)) ?_
      iterate 6 refine a_op ?_
      refine s_nil (r_false ?_)
      refine q_next ?_
      refine k_seq ?_
      refine k_region rfl ?_
      refine a_op ?_
      first | refine a_text ?_ | refine a_texts ?_
      refine a_call [] true ((by have h := Getp_good Γ hE ((y.p.set V (y.p.getD V 0 ^^^ b_))) (by rw [List.length_set]; omega); rw [hp, ansP_some] at h; exact h)) ?_
      iterate 6 refine a_op ?_
      refine s_nil (r_false ?_)
      refine q_next ?_
      refine k_seq ?_
      refine k_region rfl ?_
      iterate 3 refine a_op ?_
      refine a_go ?_
      refine a_go ?_
      refine a_op ?_
      refine a_op ?_
      refine a_go ?_
      refine a_go ?_
      refine a_op ?_
      refine a_op ?_
      refine a_go ?_
      refine a_go ?_
      refine a_op ?_
      refine a_op ?_
      refine a_go ?_
      refine a_go ?_
      refine a_go ?_
      refine a_no ?_
      refine a_no ?_
      refine a_no ?_
      refine a_go ?_
      refine a_op ?_
      refine a_op ?_
      refine a_go ?_
      refine a_go ?_
      refine a_go ?_
      refine a_go ?_
      refine a_go ?_
      refine a_callgo [] false (by have h := SameReply_good Γ p y (by omega); rw [hpn] at h; exact h) ?_
      refine a_go ?_
      refine a_go ?_
      refine a_op ?_
      refine a_op ?_
      refine a_callgo [] false (awake_good Γ hE) ?_
      refine a_op ?_
      refine a_op ?_
      refine s_nil (r_false ?_)
      refine q_next ?_
      refine k_ret ?_
      refine ⟨.inr rfl, a_ret [] (by rw [results4]) ?_ ?_ ?_⟩ <;> simp [-List.map_set, -List.map_replicate, -List.reduceReplicate, -List.map_map, -List.map_drop, -List.map_take, num, bol, txt, w8, w16, w32, w64, lst, cls, rowO, boxO, List.take_of_length_le, Wr.cellsL_len, wA, Wr.k_mk, Wr.n_mk, Wr.s_mk, Wr.l_mk, Wr.cellsL, Wr.z_eq]
    · (try have hqn := rq_turned hlY hb hq); (try have hpn := rp_turned hlV hb hp); (try have hpl := gp_len hp); try rw [List.length_set] at hpl
      refine a_op ?_
      first | refine a_text ?_ | refine a_texts ?_
      refine a_call [] false ((by have h := Getq_good Γ hE ((r.p.set Y (r.p.getD Y 0 ^^^ b_))) (by rw [List.length_set]; omega); rw [hq, ansQ_some] at h; exact h)) ?_
      iterate 6 refine a_op ?_
      refine s_nil (r_false ?_)
      refine q_next ?_
      refine k_seq ?_
      refine k_region rfl ?_
      refine a_op ?_
      first | refine a_text ?_ | refine a_texts ?_
      refine a_call [] true ((by have h := Getp_good Γ hE ((y.p.set V (y.p.getD V 0 ^^^ b_))) (by rw [List.length_set]; omega); rw [hp, ansP_none] at h; exact h)) ?_
      iterate 6 refine a_op ?_
      refine s_nil (r_false ?_)
      refine q_next ?_
      refine k_seq ?_
      refine k_region rfl ?_
      iterate 3 refine a_op ?_
      refine a_go ?_
      refine a_go ?_
      refine a_op ?_
      refine a_op ?_
      refine a_go ?_
      refine a_go ?_
      refine a_op ?_
      refine a_op ?_
      refine a_go ?_
      refine a_go ?_
      refine a_op ?_
      refine a_op ?_
      refine a_go ?_
      refine a_go ?_
      refine a_go ?_
      refine a_go ?_
      refine a_go ?_
      refine a_eqsgo _ ?_ (nq_rq (q := q) (r := r) (b := true) (by rw [hqn]; rfl))
      refine a_go ?_
      refine a_op ?_
      refine a_op ?_
      refine a_go ?_
      refine a_go ?_
      refine a_go ?_
      refine a_no ?_
      refine a_no ?_
      refine a_no ?_
      refine a_no ?_
      refine a_go ?_
      refine a_op ?_
      refine a_op ?_
      refine a_callgo [] false (awake_good Γ hE) ?_
      refine a_op ?_
      refine a_op ?_
      refine s_nil (r_false ?_)
      refine q_next ?_
      refine k_ret ?_
      refine ⟨.inr rfl, a_ret [] (by rw [results4]) ?_ ?_ ?_⟩ <;> simp [-List.map_set, -List.map_replicate, -List.reduceReplicate, -List.map_map, -List.map_drop, -List.map_take, num, bol, txt, w8, w16, w32, w64, lst, cls, rowO, boxO, List.take_of_length_le, Wr.cellsL_len, wA, Wr.k_mk, Wr.n_mk, Wr.s_mk, Wr.l_mk, Wr.cellsL, Wr.z_eq]
    · (try have hqn := rq_turned hlY hb hq); (try have hpn := rp_turned hlV hb hp); (try have hpl := gp_len hp); try rw [List.length_set] at hpl
      refine a_op ?_
      first | refine a_text ?_ | refine a_texts ?_
      refine a_call [] false ((by have h := Getq_good Γ hE ((r.p.set Y (r.p.getD Y 0 ^^^ b_))) (by rw [List.length_set]; omega); rw [hq, ansQ_some] at h; exact h)) ?_
      iterate 6 refine a_op ?_
      refine s_nil (r_false ?_)
      refine q_next ?_
      refine k_seq ?_
      refine k_region rfl ?_
      refine a_op ?_
      first | refine a_text ?_ | refine a_texts ?_
      refine a_call [] true ((by have h := Getp_good Γ hE ((y.p.set V (y.p.getD V 0 ^^^ b_))) (by rw [List.length_set]; omega); rw [hp, ansP_some] at h; exact h)) ?_
      iterate 6 refine a_op ?_
      refine s_nil (r_false ?_)
      refine q_next ?_
      refine k_seq ?_
      refine k_region rfl ?_
      iterate 3 refine a_op ?_
      refine a_go ?_
      refine a_go ?_
      refine a_op ?_
      refine a_op ?_
      refine a_go ?_
      refine a_go ?_
      refine a_op ?_
      refine a_op ?_
      refine a_go ?_
      refine a_go ?_
      refine a_op ?_
      refine a_op ?_
      refine a_go ?_
      refine a_go ?_
      refine a_go ?_
      refine a_go ?_
      refine a_go ?_
      refine a_eqsgo _ ?_ (nq_rq (q := q) (r := r) (b := true) (by rw [hqn]; rfl))
      refine a_go ?_
      refine a_op ?_
      refine a_op ?_
      refine a_go ?_
      refine a_go ?_
      refine a_go ?_
      refine a_go ?_
      refine a_go ?_
      refine a_callgo [] false (by have h := SameReply_good Γ p y (by omega); rw [hpn] at h; exact h) ?_
      refine a_go ?_
      refine a_go ?_
      refine a_op ?_
      refine a_op ?_
      refine a_callgo [] false (awake_good Γ hE) ?_
      refine a_op ?_
      refine a_op ?_
      refine s_nil (r_false ?_)
      refine q_next ?_
      refine k_ret ?_
      refine ⟨.inr rfl, a_ret [] (by rw [results4]) ?_ ?_ ?_⟩ <;> simp [-List.map_set, -List.map_replicate, -List.reduceReplicate, -List.map_map, -List.map_drop, -List.map_take, num, bol, txt, w8, w16, w32, w64, lst, cls, rowO, boxO, List.take_of_length_le, Wr.cellsL_len, wA, Wr.k_mk, Wr.n_mk, Wr.s_mk, Wr.l_mk, Wr.cellsL, Wr.z_eq]

end Go.Proofs.Tryd
