/- Contracts of this program's functions. -/
import Derived.Test.YtkbikblijipceaaGreatDoorSRL2
import Derived.Test.YtkbikblijipceaaGreatDoorSQ7
set_option maxHeartbeats 4000000
set_option maxRecDepth 100000
set_option linter.unusedVariables false
set_option linter.unusedSimpArgs false
namespace Go.Proofs.Tryz
open Go Go.Ot

theorem tmod4 (i : Nat) : ((i : Nat) : Int).tmod 4 = ((i % 4 : Nat) : Int) := by rw [Int.tmod_eq_emod_of_nonneg (by omega)]; omega
theorem newB_33 : newB 3 3 = [⟨1, []⟩, ⟨1, []⟩, ⟨1, []⟩] := rfl
theorem newB_44 : newB 4 4 = [⟨1, []⟩, ⟨1, []⟩, ⟨1, []⟩, ⟨1, []⟩] := rfl
theorem rlS_4 (s : List UInt8) (n : Int) : rlS ⟨newB 4 4, [], s, n, List.replicate 4 0⟩ := ⟨by rw [newB_len]; decide, fun i => by
 show ((newB 4 4).getD i default).l.length ≤ 1000000
 rw [newB_44]
 match i with
 | 0 => exact Nat.zero_le _
 | 1 => exact Nat.zero_le _
 | 2 => exact Nat.zero_le _
 | 3 => exact Nat.zero_le _
 | n + 4 => exact Nat.zero_le _, Nat.zero_le _, by simp⟩
theorem rlS_3 : rlS (newR 3) := ⟨by show (newB 3 3).length ≤ 100; rw [newB_len]; decide, fun i => by
 show ((newB 3 3).getD i default).l.length ≤ 1000000
 rw [newB_33]
 match i with
 | 0 => exact Nat.zero_le _
 | 1 => exact Nat.zero_le _
 | 2 => exact Nat.zero_le _
 | n + 3 => exact Nat.zero_le _, Nat.zero_le _, by simp [newR]⟩
theorem GQ_nil : GQ [] = none := by simp [GQ]
theorem GP_big {k d n : Int} {l : List (List UInt8)} (hk : 0 ≤ k ∧ k ≤ 100) (hd : 0 ≤ d ∧ d ≤ 100) (hn : 0 ≤ n ∧ n ≤ 1000000) (hl : l.length ≤ 1) (hs : ∀ s ∈ l, s.length ≤ 1000000) : GP (Rp.p ⟨k, d, n, l⟩) = some ⟨k, d, n, l⟩ ∧ (Rp.p ⟨k, d, n, l⟩).length ≤ 1000000 + 100 := by
 have hm : mayW 6 (Rp.w ⟨k, d, n, l⟩) = true := by
  rw [Rp.w, rpW_may, Bool.and_eq_true, List.all_eq_true]
  exact ⟨decide_eq_true (by show l.length ≤ 65536; omega), fun s h => decide_eq_true (by have := hs s h; omega)⟩
 refine ⟨GP_p hm ⟨⟨by show (-9223372036854775808 : Int) ≤ k; omega, by show k ≤ _; omega⟩, ⟨by show (-9223372036854775808 : Int) ≤ d; omega, by show d ≤ _; omega⟩, ⟨by show (-9223372036854775808 : Int) ≤ n; omega, by show n ≤ _; omega⟩⟩, ?_⟩
 rw [Rp.p, PutW_t hm]
 have := rpW_len k d n l
 have ht : tsz l ≤ 1000005 := by
  match l, hl with
  | [], _ => exact Nat.zero_le _
  | [s], _ => have := hs s (by simp); simp [tsz]; omega
 show (putW 6 (rpW k d n l)).length ≤ _
 omega
theorem GP_ok {k d n : Int} {l : List (List UInt8)} (hk : 0 ≤ k ∧ k ≤ 100) (hd : 0 ≤ d ∧ d ≤ 100) (hn : 0 ≤ n ∧ n ≤ 1000000) (hl : l.length ≤ 1) (hs : ∀ s ∈ l, s.length ≤ 500) : GP (Rp.p ⟨k, d, n, l⟩) = some ⟨k, d, n, l⟩ ∧ (Rp.p ⟨k, d, n, l⟩).length ≤ 1000000 := by
 have hm : mayW 6 (Rp.w ⟨k, d, n, l⟩) = true := by
  rw [Rp.w, rpW_may, Bool.and_eq_true, List.all_eq_true]
  exact ⟨decide_eq_true (by show l.length ≤ 65536; omega), fun s h => decide_eq_true (by have := hs s h; omega)⟩
 refine ⟨(GP_big hk hd hn hl (fun s h => by have := hs s h; omega)).1, ?_⟩
 rw [Rp.p, PutW_t hm]
 have := rpW_len k d n l
 have ht : tsz l ≤ 505 := by
  match l, hl with
  | [], _ => exact Nat.zero_le _
  | [s], _ => have := hs s (by simp); simp [tsz]; omega
 show (putW 6 (rpW k d n l)).length ≤ _
 omega
def snK (l : List (List UInt8)) : Nat → List UInt8
 | 0 => []
 | i + 1 => l.getD i []
def snG (l : List (List UInt8)) : Nat → List (List UInt8)
 | 0 => []
 | i + 1 => [l.getD i []]
theorem snK_0 (l : List (List UInt8)) : snK l 0 = [] := rfl
theorem snG_0 (l : List (List UInt8)) : snG l 0 = [] := rfl
theorem snK_s (l : List (List UInt8)) (i : Nat) : snK l (i + 1) = l.getD i [] := rfl
theorem snG_s (l : List (List UInt8)) (i : Nat) : snG l (i + 1) = [l.getD i []] := rfl
theorem snL_4 : snL ⟨newB 4 4, [], [], 0, List.replicate 4 0⟩ = [] := rfl
theorem snL_x (x : List UInt8) (i : Nat) : snL ⟨newB 4 4, [], x, (i : Int) + 1, List.replicate 4 0⟩ = [x] := snL_y (by show (0 : Int) < (i : Int) + 1; omega)
attribute [local irreducible] wpK wpS seqK blockK loopF regK meetK OpSpec Le rdS lpW rdW got mayS mayW putS putW nb u64 PutW GQ GP tsz wTs Rq.p Rp.p snL
theorem num_good (Γ : Gl) (n : Int) : Go.Ot.Good Γ prog 18 [.t (num n)] [] (.t (num n)) [] [] := by
 refine a_body F.mix func18 (by rfl) ntmps18 ?_
 refine k_seq ?_
 refine k_region rfl ?_
 refine a_op ?_
 refine s_nil (r_false ?_)
 refine q_next ?_
 refine k_seq ?_
 refine k_region rfl ?_
 refine a_op ?_
 refine a_op ?_
 refine s_nil (r_false ?_)
 refine q_next ?_
 refine k_ret ?_
 refine ⟨.inr rfl, a_ret [] (by rw [results18]) ?_ ?_ ?_⟩ <;> simp [-List.map_set, -List.map_replicate, -List.reduceReplicate, -List.map_map, -List.map_drop, -List.map_take, num, bol, txt, w8, w16, w32, w64, lst, cls, rowO, boxO, List.take_of_length_le]

theorem awake_good (Γ : Gl) (hE : EG Γ)  : Go.Ot.Good Γ prog 11 [] [] (.t (bol true)) [] [] := by
 have g5 := GP_ok (k := 0) (d := 5) (n := 0) (l := []) (by omega) (by omega) (by omega) (by simp) (by simp)
 refine a_body F.mix func11 (by rfl) ntmps11 ?_
 refine k_seq ?_
 refine k_region rfl ?_
 refine a_op ?_
 refine s_nil (r_false ?_)
 refine q_next ?_
 refine k_seq ?_
 refine k_region rfl ?_
 refine a_call [] true (new3_good Γ) ?_
 refine a_call [] true (step_form Γ hE (newR 3) rlS_3 [] (by simp) GQ_nil) ?_ (hv := by (simp (disch := first | omega | (simp only [List.length_drop, List.length_take, List.length_map, List.length_append, List.length_cons, List.length_nil, List.length_replicate, List.length_set] <;> omega) | fail) [-List.map_map, -List.map_drop, -List.map_take, VwL_cons, VwL_nil, Vw_bad, Vw_t, Vw_ptr, Vw_msl, Vw_rop, Vw_agg, Vw_tup, Vw_ifc, VwT_refl, VwL_refl_map, Vw_nilmsl, VwT_msl, VwT_agg, VwT_v, VwT_nil, VwTs_cons, VwTs_nil, VwTs_refl, VwTs_app, List.take_of_length_le, srcL, notIn, ObsVw, SrcOk, pOk, Go.Ot.look, resP, resN, ev, evc, mkS, push_cast, List.take_of_length_le, newR] <;> (try omega)))
 iterate 6 refine a_op ?_
 refine s_nil (r_false ?_)
 refine q_next ?_
 refine k_seq ?_
 refine k_region rfl ?_
 refine a_op ?_
 refine a_call [] true ((by have h := GetRp_good Γ (Rp.p ⟨0, 5, 0, []⟩) g5.2; rw [g5.1, refRp_some] at h; exact h)) ?_
 refine a_op ?_
 refine a_op ?_
 refine s_nil (r_false ?_)
 refine q_next ?_
 refine k_seq ?_
 refine k_region rfl ?_
 iterate 3 refine a_op ?_
 refine a_go ?_
 refine a_go ?_
 refine a_go ?_
 refine a_callgo [] false (num_good Γ 5) ?_
 refine a_go ?_
 refine a_op ?_
 refine a_op ?_
 refine a_go ?_
 refine a_go ?_
 refine a_go ?_
 refine a_go ?_
 refine a_op ?_
 refine a_op ?_
 refine s_nil (r_false ?_)
 refine q_next ?_
 refine k_ret ?_
 refine ⟨.inr rfl, a_ret [] (by rw [results11]) ?_ ?_ ?_⟩ <;> simp [-List.map_set, -List.map_replicate, -List.reduceReplicate, -List.map_map, -List.map_drop, -List.map_take, num, bol, txt, w8, w16, w32, w64, lst, cls, rowO, boxO, List.take_of_length_le, Wr.cellsL_len, wA, Wr.k_mk, Wr.n_mk, Wr.s_mk, Wr.l_mk, Wr.cellsL, Wr.z_eq, mbT, newR, newB_len]

theorem shares_good (Γ : Gl) (hE : EG Γ) (l : List (List UInt8)) (dev : UInt8) (hl : l.length ≤ 9223372036854775807) : Go.Ot.Good Γ prog 6 [.t (lst txt l), .t (w8 dev)] [] (.t (bol true)) [] [] := by
 refine a_body F.mix func6 (by rfl) ntmps6 ?_
 refine k_seq ?_
 refine k_region rfl ?_
 refine a_op ?_
 refine s_nil (r_false ?_)
 refine q_next ?_
 refine k_seq ?_
 refine k_seq ?_
 refine k_region rfl ?_
 iterate 3 refine a_op ?_
 refine s_nil (r_false ?_)
 refine q_next ?_
 refine a_if (fun hc0 => ?_) (fun hc0 => ?_)
 ·(try simp only [Bool.and_eq_true, Bool.or_eq_true, Bool.or_eq_false_iff, Bool.not_eq_true', Bool.not_eq_false', dec_t, dec_f, Bool.and_eq_false_imp, beq_iff_eq, beq_eq_false_iff_ne, ne_eq] at hc0)
  refine k_seq ?_
  refine k_region rfl ?_
  refine a_call [] false (awake_good Γ hE) ?_
  refine a_op ?_
  refine s_nil (r_false ?_)
  refine q_next ?_
  refine k_ret ?_
  refine q_seq_ret ?_
  refine ⟨.inr rfl, a_ret [] (by rw [results6]) ?_ ?_ ?_⟩ <;> simp [-List.map_set, -List.map_replicate, -List.reduceReplicate, -List.map_map, -List.map_drop, -List.map_take, num, bol, txt, w8, w16, w32, w64, lst, cls, rowO, boxO, List.take_of_length_le, Wr.cellsL_len, wA, Wr.k_mk, Wr.n_mk, Wr.s_mk, Wr.l_mk, Wr.cellsL, Wr.z_eq, mbT, newR, qA]
 ·(try simp only [Bool.and_eq_true, Bool.or_eq_true, Bool.or_eq_false_iff, Bool.not_eq_true', Bool.not_eq_false', dec_t, dec_f, Bool.and_eq_false_imp, beq_iff_eq, beq_eq_false_iff_ne, ne_eq] at hc0)
  refine k_skip ?_
  refine q_next ?_
  refine k_seq ?_
  refine k_region rfl ?_
  have hd8 := dev.toNat_lt
  obtain ⟨dd, hdd, hd4⟩ : ∃ d : Nat, dev.toNat % 4 = d ∧ d < 4 := ⟨_, rfl, by omega⟩
  have hdt := tmod4 dev.toNat
  rw [hdd] at hdt
  have g0 := GP_ok (k := 6) (d := 0) (n := 0) (l := []) (by omega) (by omega) (by omega) (by simp) (by simp)
  refine a_call [] true (new4_good Γ) ?_
  refine a_op ?_
  refine a_op ?_
  refine s_nil (r_false ?_)
  refine q_next ?_
  refine k_seq ?_
  refine k_region rfl ?_
  refine a_op ?_
  refine a_op ?_
  refine a_op (hs := by (simp (disch := first | omega | (simp only [List.length_drop, List.length_take, List.length_map, List.length_append, List.length_cons, List.length_nil, List.length_replicate, List.length_set] <;> omega) | (simp only [push_cast] <;> omega) | fail) only [push_cast, reduceCtorEq, Nat.reduceAdd, Nat.reduceSub, Nat.reduceMul, Nat.reduceEqDiff, Nat.reduceLT, Nat.reduceLeDiff, Nat.reduceMod, Nat.reduceDiv, Int.reduceLE, Int.reduceLT, Int.reduceEq, Int.reduceToNat, Int.reduceAdd, Int.reduceSub, Int.reduceMul, Int.reduceNeg, hdt] <;> rfl)) ?_
  refine a_op ?_
  refine a_call [] false (rqPutR_good Γ ⟨6, (dd : Int), 0, []⟩) ?_ (hv := by (simp (disch := first | omega | (simp only [List.length_drop, List.length_take, List.length_map, List.length_append, List.length_cons, List.length_nil, List.length_replicate, List.length_set] <;> omega) | fail) [-List.map_map, -List.map_drop, -List.map_take, VwL_cons, VwL_nil, Vw_bad, Vw_t, Vw_ptr, Vw_msl, Vw_rop, Vw_agg, Vw_tup, Vw_ifc, VwT_refl, VwL_refl_map, Vw_nilmsl, VwT_msl, VwT_agg, VwT_v, VwT_nil, VwTs_cons, VwTs_nil, VwTs_refl, VwTs_app, List.take_of_length_le, srcL, notIn, ObsVw, SrcOk, pOk, Go.Ot.look, resP, resN, ev, evc, mkS, push_cast, List.take_of_length_le, qA] <;> (try omega)))
  refine a_op ?_
  refine s_nil (r_false ?_)
  refine q_next ?_
  refine k_seq ?_
  refine k_region rfl ?_
  refine a_op ?_
  refine a_op ?_
  refine a_call [] true ((by have h := step_snap Γ hE ⟨newB 4 4, [], [], 0, List.replicate 4 0⟩ dd 0 (by constructor <;> first | omega | (show _ < (((newB 4 4).length : Nat) : Int); rw [newB_len]; omega)) ⟨by omega, by omega⟩ (by constructor <;> decide) (rlS_4 _ _) [] (by simp) (by simp); rw [snL_4] at h; exact h)) ?_ (hv := by (simp (disch := first | omega | (simp only [List.length_drop, List.length_take, List.length_map, List.length_append, List.length_cons, List.length_nil, List.length_replicate, List.length_set] <;> omega) | fail) [-List.map_map, -List.map_drop, -List.map_take, VwL_cons, VwL_nil, Vw_bad, Vw_t, Vw_ptr, Vw_msl, Vw_rop, Vw_agg, Vw_tup, Vw_ifc, VwT_refl, VwL_refl_map, Vw_nilmsl, VwT_msl, VwT_agg, VwT_v, VwT_nil, VwTs_cons, VwTs_nil, VwTs_refl, VwTs_app, List.take_of_length_le, srcL, notIn, ObsVw, SrcOk, pOk, Go.Ot.look, resP, resN, ev, evc, mkS, push_cast, List.take_of_length_le, newR, List.length_replicate] <;> (try omega)))
  iterate 6 refine a_op ?_
  refine s_nil (r_false ?_)
  refine q_next ?_
  refine k_seq ?_
  refine k_region rfl ?_
  refine a_op ?_
  refine a_call [] true ((by have h := GetRp_good Γ (Rp.p ⟨6, 0, 0, []⟩) g0.2; rw [g0.1, refRp_some] at h; exact h)) ?_
  refine a_op ?_
  refine a_op ?_
  refine s_nil (r_false ?_)
  refine q_next ?_
  refine k_seq ?_
  refine k_seq ?_
  refine k_region rfl ?_
  iterate 4 refine a_op ?_
  refine a_go ?_
  refine a_go ?_
  refine a_go ?_
  refine a_go ?_
  refine a_go ?_
  refine a_op ?_
  refine a_op ?_
  refine a_go ?_
  refine a_go ?_
  refine a_go ?_
  refine a_go ?_
  refine a_op ?_
  refine a_op ?_
  refine a_go ?_
  refine a_go ?_
  refine a_go ?_
  refine a_go ?_
  refine a_op ?_
  refine s_nil (r_false ?_)
  refine q_next ?_
  refine a_false ?_
  refine k_skip ?_
  refine q_next ?_
  refine k_seq ?_
  refine k_seq ?_
  refine k_region rfl ?_
  refine a_op ?_
  refine s_nil (r_false ?_)
  refine q_next ?_
  refine k_block ?_
  refine k_loopF (fun sl L (i : Nat) => ⟨setAll (setBad sl [1, 4, 7, 8, 11, 12, 13, 14, 15, 16, 17, 18, 19, 20, 21, 22, 23, 24, 25, 26, 27, 28, 29, 30, 31, 32, 33, 34, 35, 36, 37, 38, 39, 40, 41, 42, 43, 44, 45, 46, 47, 48, 49, 50, 51, 52, 53, 54, 55, 56, 57, 58, 59, 60, 61, 62, 63, 64, 65, 66, 67, 68, 69, 70, 71, 72, 73, 74, 75, 76, 77, 78, 79, 80, 81, 82, 83, 84, 85, 86, 87, 88, 89, 90, 91, 92, 93, 94, 95, 96, 97, 98, 99, 100, 101, 102, 103, 104, 105, 106, 107, 108, 109, 110, 111, 112, 113, 114, 115, 116, 117, 118, 119, 120, 121, 122, 123, 124, 125, 126, 127, 128, 129, 130, 131, 132, 133]) [(10, .t (num i))], Go.Ot.look (putL (.r 3 1 0) (boxO 31 [.t (.sl 4 ((newB 4 4).flatMap mbT)), .t (lst txt []), .t (txt (snK l i)), .t (num i), .t (lst num (List.replicate 4 0))]) (putL (.r 6 2 0) (boxO 46 [.t (num 6), .t (num 0), .t (num i), .t (lst txt (snG l i)), .t (bol true)]) L))⟩) (fun i => i ≤ l.length ∧ (snK l i).length ≤ 500) (fun i => l.length - i) (0) (a_le ?_) ?_ ?_
  ·refine le_of [(.r 3 1 0, .r 3 1 0), (.r 5 6 0, .r 5 6 0), (.r 6 2 0, .r 6 2 0)] ?_ ?_ ?_ <;> simp [-List.map_set, -List.map_replicate, -List.reduceReplicate, -List.map_map, -List.map_drop, -List.map_take, num, bol, txt, w8, w16, w32, w64, lst, cls, rowO, boxO, List.take_of_length_le, Wr.cellsL_len, wA, Wr.k_mk, Wr.n_mk, Wr.s_mk, Wr.l_mk, Wr.cellsL, Wr.z_eq, mbT, newR, qA, snK_0, snG_0, newB_len] <;> (try omega)
  ·exact ⟨Nat.zero_le _, Nat.zero_le _⟩
  ·rintro i ⟨hi, hik⟩
   refine a_st ?_
   refine k_seq ?_
   refine k_seq ?_
   refine k_region rfl ?_
   iterate 4 refine a_op ?_
   refine s_nil (r_false ?_)
   refine q_next ?_
   refine a_if (fun hc2 => ?_) (fun hc2 => ?_)
   ·(try simp only [Bool.and_eq_true, Bool.or_eq_true, Bool.or_eq_false_iff, Bool.not_eq_true', Bool.not_eq_false', dec_t, dec_f, Bool.and_eq_false_imp, beq_iff_eq, beq_eq_false_iff_ne, ne_eq] at hc2)
    refine k_skip ?_
    refine q_next ?_
    refine k_seq ?_
    refine k_block ?_
    refine k_seq ?_
    refine k_seq ?_
    refine k_region rfl ?_
    iterate 4 refine a_op ?_
    have hib : i < l.length := by omega
    obtain ⟨x, hx⟩ : ∃ x, l.getD i [] = x := ⟨_, rfl⟩
    simp only [hx]
    refine a_op ?_
    refine a_op ?_
    refine s_nil (r_false ?_)
    refine q_next ?_
    refine a_if (fun hc3 => ?_) (fun hc3 => ?_)
    ·(try simp only [Bool.and_eq_true, Bool.or_eq_true, Bool.or_eq_false_iff, Bool.not_eq_true', Bool.not_eq_false', dec_t, dec_f, Bool.and_eq_false_imp, beq_iff_eq, beq_eq_false_iff_ne, ne_eq] at hc3)
     refine k_seq ?_
     refine k_region rfl ?_
     refine a_call [] false (awake_good Γ hE) ?_
     refine a_op ?_
     refine s_nil (r_false ?_)
     refine q_next ?_
     refine k_ret ?_
     refine q_seq_ret (q_block_ret (q_seq_ret (q_loopF_ret (q_block_ret (q_seq_ret ?_)))))
     refine ⟨.inr rfl, a_ret [] (by rw [results6]) ?_ ?_ ?_⟩ <;> simp [-List.map_set, -List.map_replicate, -List.reduceReplicate, -List.map_map, -List.map_drop, -List.map_take, num, bol, txt, w8, w16, w32, w64, lst, cls, rowO, boxO, List.take_of_length_le, Wr.cellsL_len, wA, Wr.k_mk, Wr.n_mk, Wr.s_mk, Wr.l_mk, Wr.cellsL, Wr.z_eq, mbT, newR, qA]
    ·(try simp only [Bool.and_eq_true, Bool.or_eq_true, Bool.or_eq_false_iff, Bool.not_eq_true', Bool.not_eq_false', dec_t, dec_f, Bool.and_eq_false_imp, beq_iff_eq, beq_eq_false_iff_ne, ne_eq] at hc3)
     have hx3 : x.length ≤ 300 := by omega
     have g1 := GP_ok (k := 5) (d := 0) (n := (i : Int) + 1) (l := []) (by omega) (by omega) (by omega) (by simp) (by simp)
     have g2 := GP_ok (k := 6) (d := 0) (n := (i : Int) + 1) (l := [x]) (by omega) (by omega) (by omega) (by simp) (fun s hs => by obtain rfl := List.mem_singleton.1 hs; omega)
     obtain ⟨ee, hee, he4⟩ : ∃ d : Nat, i % 4 = d ∧ d < 4 := ⟨_, rfl, by omega⟩
     have het := tmod4 i
     rw [hee] at het
     refine k_skip ?_
     refine q_next ?_
     refine k_seq ?_
     refine k_region rfl ?_
     refine a_opd ?_
     refine a_opd ?_
     refine a_opd (hs := by (simp (disch := first | omega | (simp only [List.length_drop, List.length_take, List.length_map, List.length_append, List.length_cons, List.length_nil, List.length_replicate, List.length_set] <;> omega) | (simp only [push_cast] <;> omega) | fail) only [push_cast, reduceCtorEq, Nat.reduceAdd, Nat.reduceSub, Nat.reduceMul, Nat.reduceEqDiff, Nat.reduceLT, Nat.reduceLeDiff, Nat.reduceMod, Nat.reduceDiv, Int.reduceLE, Int.reduceLT, Int.reduceEq, Int.reduceToNat, Int.reduceAdd, Int.reduceSub, Int.reduceMul, Int.reduceNeg, het] <;> rfl)) ?_
     iterate 4 refine a_opd ?_
     simp only [hx]
     refine a_opd ?_
     refine a_calld [] false (rqPutR_good Γ ⟨5, (ee : Int), 0, x⟩) ?_ (hv := by (simp (disch := first | omega | (simp only [List.length_drop, List.length_take, List.length_map, List.length_append, List.length_cons, List.length_nil, List.length_replicate, List.length_set] <;> omega) | fail) [-List.map_map, -List.map_drop, -List.map_take, VwL_cons, VwL_nil, Vw_bad, Vw_t, Vw_ptr, Vw_msl, Vw_rop, Vw_agg, Vw_tup, Vw_ifc, VwT_refl, VwL_refl_map, Vw_nilmsl, VwT_msl, VwT_agg, VwT_v, VwT_nil, VwTs_cons, VwTs_nil, VwTs_refl, VwTs_app, List.take_of_length_le, srcL, notIn, ObsVw, SrcOk, pOk, Go.Ot.look, resP, resN, ev, evc, mkS, push_cast, List.take_of_length_le, qA] <;> (try omega)))
     refine a_calld [] true (step_share Γ hE ⟨newB 4 4, [], snK l i, (i : Int), List.replicate 4 0⟩ ee 0 (by constructor <;> first | omega | (show _ < (((newB 4 4).length : Nat) : Int); rw [newB_len]; omega)) ⟨by omega, by omega⟩ (by show 0 ≤ (i : Int) ∧ (i : Int) ≤ 1000000; omega) (rlS_4 _ _) x (by omega) (by show (snK l i).length ≤ 1000000; omega)) ?_ (hv := by (simp (disch := first | omega | (simp only [List.length_drop, List.length_take, List.length_map, List.length_append, List.length_cons, List.length_nil, List.length_replicate, List.length_set] <;> omega) | fail) [-List.map_map, -List.map_drop, -List.map_take, VwL_cons, VwL_nil, Vw_bad, Vw_t, Vw_ptr, Vw_msl, Vw_rop, Vw_agg, Vw_tup, Vw_ifc, VwT_refl, VwL_refl_map, Vw_nilmsl, VwT_msl, VwT_agg, VwT_v, VwT_nil, VwTs_cons, VwTs_nil, VwTs_refl, VwTs_app, List.take_of_length_le, srcL, notIn, ObsVw, SrcOk, pOk, Go.Ot.look, resP, resN, ev, evc, mkS, push_cast, List.take_of_length_le, newR, List.length_replicate] <;> (try omega)))
     iterate 6 refine a_opd ?_
     refine s_nil (r_true (by kernel_rfl) ?_)
     refine q_next ?_
     refine k_seq ?_
     refine k_region rfl ?_
     refine a_op ?_
     refine a_call [] true ((by have h := GetRp_good Γ (Rp.p ⟨5, 0, (i : Int) + 1, []⟩) g1.2; rw [g1.1, refRp_some] at h; exact h)) ?_
     refine a_op ?_
     refine a_op ?_
     refine s_nil (r_false ?_)
     refine q_next ?_
     refine k_seq ?_
     refine k_region rfl ?_
     refine a_op ?_
     refine a_op ?_
     refine s_nil (r_false ?_)
     refine q_next ?_
     refine k_seq ?_
     refine k_region rfl ?_
     refine a_op ?_
     refine a_op ?_
     refine a_call [] true ((by have h := step_snap Γ hE ⟨newB 4 4, [], x, (i : Int) + 1, List.replicate 4 0⟩ dd 0 (by constructor <;> first | omega | (show _ < (((newB 4 4).length : Nat) : Int); rw [newB_len]; omega)) ⟨by omega, by omega⟩ (by show 0 ≤ (i : Int) + 1 ∧ (i : Int) + 1 ≤ 1000000; omega) (rlS_4 _ _) [] (by simp) (by show x.length ≤ 1000000; omega); rw [snL_x] at h; exact h)) ?_ (hv := by (simp (disch := first | omega | (simp only [List.length_drop, List.length_take, List.length_map, List.length_append, List.length_cons, List.length_nil, List.length_replicate, List.length_set] <;> omega) | fail) [-List.map_map, -List.map_drop, -List.map_take, VwL_cons, VwL_nil, Vw_bad, Vw_t, Vw_ptr, Vw_msl, Vw_rop, Vw_agg, Vw_tup, Vw_ifc, VwT_refl, VwL_refl_map, Vw_nilmsl, VwT_msl, VwT_agg, VwT_v, VwT_nil, VwTs_cons, VwTs_nil, VwTs_refl, VwTs_app, List.take_of_length_le, srcL, notIn, ObsVw, SrcOk, pOk, Go.Ot.look, resP, resN, ev, evc, mkS, push_cast, List.take_of_length_le, newR, List.length_replicate] <;> (try omega)))
     iterate 4 refine a_op ?_
     refine s_nil (r_false ?_)
     refine q_next ?_
     refine k_seq ?_
     refine k_region rfl ?_
     refine a_op ?_
     refine a_call [] true ((by have h := GetRp_good Γ (Rp.p ⟨6, 0, (i : Int) + 1, [x]⟩) g2.2; rw [g2.1, refRp_some] at h; exact h)) ?_
     refine a_op ?_
     refine s_nil (r_false ?_)
     refine q_next ?_
     refine k_seq ?_
     refine k_region rfl ?_
     iterate 4 refine a_opd ?_
     refine a_god ?_
     refine a_god ?_
     refine a_god ?_
     refine a_god ?_
     refine a_god ?_
     refine a_god ?_
     refine a_opd ?_
     refine a_opd ?_
     refine a_god ?_
     refine a_god ?_
     refine a_god ?_
     refine a_opd ?_
     refine a_opd ?_
     refine a_god ?_
     refine a_god ?_
     refine a_god ?_
     refine a_god ?_
     refine a_god ?_
     refine a_god ?_
     refine a_opd ?_
     refine a_opd ?_
     refine a_god ?_
     refine a_god ?_
     refine a_god ?_
     refine a_god ?_
     refine a_god ?_
     refine a_opd ?_
     refine a_opd ?_
     refine a_god ?_
     refine a_god ?_
     refine a_god ?_
     refine a_god ?_
     refine a_god ?_
     refine a_god ?_
     refine a_god ?_
     refine a_god ?_
     refine a_god ?_
     simp only [hx]
     refine a_god (hs := by (simp (disch := first | omega | (simp only [List.length_drop, List.length_take, List.length_map, List.length_append, List.length_cons, List.length_nil, List.length_replicate, List.length_set] <;> omega) | (simp only [push_cast] <;> omega) | fail) only [push_cast, reduceCtorEq, Nat.reduceAdd, Nat.reduceSub, Nat.reduceMul, Nat.reduceEqDiff, Nat.reduceLT, Nat.reduceLeDiff, Nat.reduceMod, Nat.reduceDiv, Int.reduceLE, Int.reduceLT, Int.reduceEq, Int.reduceToNat, Int.reduceAdd, Int.reduceSub, Int.reduceMul, Int.reduceNeg, beq_self_eq_true] <;> rfl)) ?_
     refine a_opd ?_
     refine s_nil (r_true (by kernel_rfl) ?_)
     refine q_next ?_
     refine a_false ?_
     refine k_skip ?_
     refine q_block (q_next ?_)
     refine k_region rfl ?_
     iterate 3 refine a_op ?_
     refine s_nil (r_false ?_)
     have hx' := hx
     rw [List.getD_eq_getElem?_getD] at hx'
     refine q_loopF (i + 1) (a_le ?_) ?_ ?_
     ·refine le_of [(.r 3 1 0, .r 3 1 0), (.r 5 6 0, .r 5 6 0), (.r 6 2 0, .r 6 2 0)] ?_ ?_ ?_ <;> simp [-List.map_set, -List.map_replicate, -List.reduceReplicate, -List.map_map, -List.map_drop, -List.map_take, num, bol, txt, w8, w16, w32, w64, lst, cls, rowO, boxO, List.take_of_length_le, Wr.cellsL_len, wA, Wr.k_mk, Wr.n_mk, Wr.s_mk, Wr.l_mk, Wr.cellsL, Wr.z_eq, mbT, newR, qA, snK_s, snG_s, hx, hx', newB_len] <;> (try omega)
     ·exact ⟨by omega, by rw [snK_s, hx]; omega⟩
     ·(first | omega | (simp only []; omega))
   ·(try simp only [Bool.and_eq_true, Bool.or_eq_true, Bool.or_eq_false_iff, Bool.not_eq_true', Bool.not_eq_false', dec_t, dec_f, Bool.and_eq_false_imp, beq_iff_eq, beq_eq_false_iff_ne, ne_eq] at hc2)
    refine k_exit ?_
    refine q_seq_exit (q_loopF_exit (q_block_exit (q_next ?_)))
    refine k_seq ?_
    refine k_region rfl ?_
    refine a_call [] false (awake_good Γ hE) ?_
    refine a_op ?_
    refine s_nil (r_false ?_)
    refine q_next ?_
    refine k_ret ?_
    refine ⟨.inr rfl, a_ret [] (by rw [results6]) ?_ ?_ ?_⟩ <;> simp [-List.map_set, -List.map_replicate, -List.reduceReplicate, -List.map_map, -List.map_drop, -List.map_take, num, bol, txt, w8, w16, w32, w64, lst, cls, rowO, boxO, List.take_of_length_le, Wr.cellsL_len, wA, Wr.k_mk, Wr.n_mk, Wr.s_mk, Wr.l_mk, Wr.cellsL, Wr.z_eq, mbT, newR, qA]

end Go.Proofs.Tryz
