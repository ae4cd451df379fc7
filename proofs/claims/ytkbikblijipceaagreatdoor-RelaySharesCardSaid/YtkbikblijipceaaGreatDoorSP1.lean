/- Contracts of this program's functions. -/
import Derived.Test.YtkbikblijipceaaGreatDoorSP0
set_option maxHeartbeats 4000000
set_option maxRecDepth 100000
set_option linter.unusedVariables false
set_option linter.unusedSimpArgs false
namespace Go.Proofs.Tryz
open Go Go.Ot
attribute [local irreducible] wpK wpS seqK blockK loopF regK meetK OpSpec Le rdS lpW rdW got mayS mayW ixF putS putW nb nbS u64 fmT
theorem numput_good (Γ : Gl) (b : List UInt8) (x sz : Nat) (hx : x < 18446744073709551616) (hz : sz ≤ 8) (hb : b.length ≤ 100000000) : Go.Ot.Good Γ prog 149 [.msl (.p 0) 0 (b).length 1, .t (.v (.int .u64 x)), .t (num sz)] [rowO 5 w8 (b)] (.msl (.p 0) 0 (b ++ nb sz x).length 1) [some (rowO 5 w8 (b ++ nb sz x))] [] := by
 refine a_body F.mix func149 (by rfl) ntmps149 ?_
 refine k_seq ?_
 refine k_region rfl ?_
 refine a_op ?_
 refine s_nil (r_false ?_)
 refine q_next ?_
 refine k_seq ?_
 refine k_seq ?_
 refine k_region rfl ?_
 iterate 3 refine a_op ?_
 refine s_nil (r_false ?_)
 refine q_next ?_
 refine k_block ?_
 refine k_loopF (fun sl L (j : Nat) => ⟨setAll (setBad sl [2, 8, 9, 10, 11, 12, 13, 14, 15, 16, 17, 18, 19, 20, 21]) [(0, .msl (.p 0) 0 (b ++ nbS sz x j).length 1), (7, .t (num ((sz : Int) - 1 - (j : Int))))], Go.Ot.look (putL (.p 0) (rowO 5 w8 (b ++ nbS sz x j)) L)⟩) (fun j => j ≤ sz) (fun j => sz - j) (0) (a_le ?_) ?_ ?_
 ·refine le_of [(.p 0, .p 0)] ?_ ?_ ?_ <;> simp [-List.map_set, -List.map_replicate, -List.reduceReplicate, -List.map_map, -List.map_drop, -List.map_take, num, bol, txt, w8, w16, w32, w64, lst, cls, rowO, boxO, List.take_of_length_le, nbS_zero] <;> (try omega)
 ·(first | omega | simp)
 ·intro j hj
  have hnl := nbS_len sz x j
  refine a_st ?_
  refine k_seq ?_
  refine k_seq ?_
  refine k_region rfl ?_
  refine a_op ?_
  refine a_op ?_
  refine s_nil (r_false ?_)
  refine q_next ?_
  refine a_if (fun hc0 => ?_) (fun hc0 => ?_)
  ·(try simp only [Bool.and_eq_true, Bool.or_eq_true, Bool.or_eq_false_iff, Bool.not_eq_true', Bool.not_eq_false', dec_t, dec_f, Bool.and_eq_false_imp, beq_iff_eq, beq_eq_false_iff_ne, ne_eq] at hc0)
   refine k_skip ?_
   refine q_next ?_
   refine k_seq ?_
   refine k_block ?_
   refine k_region rfl ?_
   iterate 5 refine a_op ?_
   refine a_cv8 ?_
   rw [show min ((8 : Int) * ((sz : Int) - 1 - (j : Int))).toNat 64 = 8 * (sz - 1 - j) from by omega, byte_shr]
   iterate 3 refine a_op ?_
   refine s_nil (r_false ?_)
   refine q_block (q_next ?_)
   refine k_region rfl ?_
   iterate 3 refine a_op ?_
   refine s_nil (r_false ?_)
   refine q_loopF (j + 1) (a_le ?_) ?_ ?_
   ·refine le_same ?_ ?_ ?_ <;> simp [-List.map_set, -List.map_replicate, -List.reduceReplicate, -List.map_map, -List.map_drop, -List.map_take, num, bol, txt, w8, w16, w32, w64, lst, cls, rowO, boxO, List.take_of_length_le, nbS_succ, List.append_assoc] <;> (try omega)
   ·(first | omega | (simp_all <;> omega))
   ·(first | omega | (simp only []; omega))
  ·(try simp only [Bool.and_eq_true, Bool.or_eq_true, Bool.or_eq_false_iff, Bool.not_eq_true', Bool.not_eq_false', dec_t, dec_f, Bool.and_eq_false_imp, beq_iff_eq, beq_eq_false_iff_ne, ne_eq] at hc0)
   refine k_exit ?_
   refine q_seq_exit (q_loopF_exit (q_block_exit (q_next ?_)))
   refine k_seq ?_
   refine k_region rfl ?_
   obtain rfl : j = sz := by omega
   have hfu := nbS_full j x
   refine a_op ?_
   refine a_op ?_
   refine s_nil (r_false ?_)
   refine q_next ?_
   refine k_ret ?_
   refine ⟨.inr rfl, a_ret [(.p 0, .p 0)] (by rw [results149]) ?_ ?_ ?_⟩ <;> simp [-List.map_set, -List.map_replicate, -List.reduceReplicate, -List.map_map, -List.map_drop, -List.map_take, num, bol, txt, w8, w16, w32, w64, lst, cls, rowO, boxO, List.take_of_length_le, hfu]

theorem put_step (Γ : Gl) (deep : Bool) (mayc : Wr → Bool) (put : Wr → List UInt8) (IH : ∀ (b : List UInt8) (w : Wr), mayc w = true → b.length + (put w).length ≤ 100000000 → Go.Ot.Good Γ prog 117 [.msl (.p 0) 0 (b).length 1, wA w] [rowO 5 w8 (b)] (.msl (.p 0) 0 (b ++ put w).length 1) [some (rowO 5 w8 (b ++ put w))] []) (b : List UInt8) (w : Wr) (hm : mayS deep mayc w = true) (hlen : b.length + (putS put w).length ≤ 100000000) : Go.Ot.Good Γ prog 117 [.msl (.p 0) 0 (b).length 1, wA w] [rowO 5 w8 (b)] (.msl (.p 0) 0 (b ++ putS put w).length 1) [some (rowO 5 w8 (b ++ putS put w))] [] := by
 refine a_body F.mix func117 (by rfl) ntmps117 ?_
 refine k_seq ?_
 refine k_region rfl ?_
 refine a_op ?_
 refine a_op ?_
 refine s_nil (r_false ?_)
 refine q_next ?_
 refine k_seq ?_
 refine k_region rfl ?_
 obtain ⟨k, n, s, l⟩ := w
 rcases mayS_k hm with rfl | ⟨rfl, hs⟩ | ⟨rfl, hl, hml⟩
 ·(try rw [putS_1] at hlen); (try rw [putS_2] at hlen); (try rw [putS_3'] at hlen); (try simp only [List.length_cons, List.length_append, nb_len] at hlen)
  iterate 3 refine a_op ?_
  refine a_cv8 ?_
  rw [show UInt8.ofInt 1 = 1 from rfl]
  iterate 3 refine a_op ?_
  refine s_nil (r_false ?_)
  refine q_next ?_
  refine k_seq ?_
  refine k_seq ?_
  refine k_region rfl ?_
  refine a_op ?_
  refine a_op ?_
  refine s_nil (r_false ?_)
  refine q_next ?_
  refine k_block ?_
  refine k_seq ?_
  refine k_region rfl ?_
  refine a_op ?_
  refine a_op ?_
  refine s_nil (r_false ?_)
  refine q_next ?_
  refine a_true ?_
  refine k_seq ?_
  refine k_region rfl ?_
  iterate 3 refine a_op ?_
  refine a_op (hs := by (simp only [push_cast, wrap_u64 n] <;> rfl)) ?_
  refine a_callp [.p 0] [] [.p 0] false (numput_good Γ (b ++ [1]) (u64 n) 8 (u64_lt _) (by omega) (by simp only [List.length_append, List.length_cons, List.length_nil]; omega)) ?_
  refine a_op ?_
  refine s_nil (r_false ?_)
  refine q_next ?_
  refine k_ret ?_
  refine q_block_ret (q_seq_ret ?_)
  refine ⟨.inr rfl, a_ret [(.p 0, .p 0)] (by rw [results117]) ?_ ?_ ?_⟩ <;> simp [-List.map_set, -List.map_replicate, -List.reduceReplicate, -List.map_map, -List.map_drop, -List.map_take, num, bol, txt, w8, w16, w32, w64, lst, cls, rowO, boxO, List.take_of_length_le, putS_1, Wr.cellsL_len, wA, Wr.k, Wr.n, Wr.s, Wr.l, Wr.cellsL, erT, chT, chV, wvT, Wr.z, CUT, KS, LONGER, nb_len] <;> (try omega)
 ·(try rw [putS_1] at hlen); (try rw [putS_2] at hlen); (try rw [putS_3'] at hlen); (try simp only [List.length_cons, List.length_append, nb_len] at hlen)
  iterate 3 refine a_op ?_
  refine a_cv8 ?_
  rw [show UInt8.ofInt 2 = 2 from rfl]
  iterate 3 refine a_op ?_
  refine s_nil (r_false ?_)
  refine q_next ?_
  refine k_seq ?_
  refine k_seq ?_
  refine k_region rfl ?_
  refine a_op ?_
  refine a_op ?_
  refine s_nil (r_false ?_)
  refine q_next ?_
  refine k_block ?_
  refine k_seq ?_
  refine k_region rfl ?_
  refine a_op ?_
  refine a_op ?_
  refine s_nil (r_false ?_)
  refine q_next ?_
  refine a_false ?_
  refine k_seq ?_
  refine k_region rfl ?_
  refine a_op ?_
  refine a_op ?_
  refine s_nil (r_false ?_)
  refine q_next ?_
  refine a_true ?_
  refine k_seq ?_
  refine g_start (.p 0) [0, 12, 24, 29] [] rfl ?_
  refine g_op ?_
  refine g_op ?_
  refine g_op ?_
  refine g_op ?_
  refine g_op ?_
  refine g_callp [.p 0] [] [.p 0] false (numput_good Γ (b ++ [2]) s.length 4 (by omega) (by omega) (by simp only [List.length_append, List.length_cons, List.length_nil]; omega)) ?_
  refine g_op ?_
  refine g_op ?_
  refine g_op ?_
  refine g_op ?_
  refine g_nil ⟨g_ok (by kernel_rfl) (by kernel_rfl), ?_⟩
  refine q_next ?_
  refine k_ret ?_
  refine q_block_ret (q_seq_ret ?_)
  refine ⟨.inr rfl, a_ret [(.p 0, .p 0)] (by rw [results117]) ?_ ?_ ?_⟩ <;> simp [-List.map_set, -List.map_replicate, -List.reduceReplicate, -List.map_map, -List.map_drop, -List.map_take, num, bol, txt, w8, w16, w32, w64, lst, cls, rowO, boxO, List.take_of_length_le, putS_2, Wr.cellsL_len, wA, Wr.k, Wr.n, Wr.s, Wr.l, Wr.cellsL, erT, chT, chV, wvT, Wr.z, CUT, KS, LONGER, nb_len] <;> (try omega)
 ·(try rw [putS_1] at hlen); (try rw [putS_2] at hlen); (try rw [putS_3'] at hlen); (try simp only [List.length_cons, List.length_append, nb_len] at hlen)
  iterate 3 refine a_op ?_
  refine a_cv8 ?_
  rw [show UInt8.ofInt 3 = 3 from rfl]
  iterate 3 refine a_op ?_
  refine s_nil (r_false ?_)
  refine q_next ?_
  refine k_seq ?_
  refine k_seq ?_
  refine k_region rfl ?_
  refine a_op ?_
  refine a_op ?_
  refine s_nil (r_false ?_)
  refine q_next ?_
  refine k_block ?_
  refine k_seq ?_
  refine k_region rfl ?_
  refine a_op ?_
  refine a_op ?_
  refine s_nil (r_false ?_)
  refine q_next ?_
  refine a_false ?_
  refine k_seq ?_
  refine k_region rfl ?_
  refine a_op ?_
  refine a_op ?_
  refine s_nil (r_false ?_)
  refine q_next ?_
  refine a_false ?_
  refine k_skip ?_
  refine q_block (q_next ?_)
  refine k_seq ?_
  refine k_region rfl ?_
  iterate 5 refine a_op ?_
  refine a_callp [.p 0] [] [.p 0] false (numput_good Γ (b ++ [3]) l.length 4 (by omega) (by omega) (by simp only [List.length_append, List.length_cons, List.length_nil]; omega)) ?_
  refine a_op ?_
  refine s_nil (r_false ?_)
  refine q_next ?_
  refine k_seq ?_
  refine k_seq ?_
  refine k_region rfl ?_
  iterate 4 refine a_op ?_
  refine s_nil (r_false ?_)
  refine q_next ?_
  refine k_block ?_
  obtain ⟨c, hcc⟩ : ∃ c : List UInt8, c = b ++ [3] ++ nb 4 l.length := ⟨_, rfl⟩
  have hcl : c.length = b.length + 5 := by rw [hcc]; simp [nb_len]
  refine k_loopF (fun sl L (i : Nat) => ⟨setAll (setBad sl [1, 3, 6, 7, 8, 9, 10, 11, 12, 13, 14, 15, 16, 17, 18, 19, 20, 21, 22, 23, 24, 25, 26, 27, 28, 29, 30, 31, 32, 33, 34, 35, 36, 37, 38, 39, 43, 44, 45, 46, 47, 48, 49]) [(0, .msl (.p 0) 0 (c ++ fmT put l i).length 1), (42, .t (num i))], Go.Ot.look (putL (.p 0) (rowO 5 w8 (c ++ fmT put l i)) L)⟩) (fun i => i ≤ l.length) (fun i => l.length - i) (0) (a_le ?_) ?_ ?_
  ·refine le_of [(.p 0, .p 0), (.r 0 0 0, .r 0 0 0), (.r 1 4 0, .r 1 4 0)] ?_ ?_ ?_ <;> simp [-List.map_set, -List.map_replicate, -List.reduceReplicate, -List.map_map, -List.map_drop, -List.map_take, num, bol, txt, w8, w16, w32, w64, lst, cls, rowO, boxO, List.take_of_length_le, hcc, nb_len, fmT_zero] <;> (try omega)
  ·(first | omega | simp)
  ·intro i hi
   have hfl := fmT_len (put := put) (l := l) (i := i)
   refine a_st ?_
   refine k_seq ?_
   refine k_region rfl ?_
   refine a_op ?_
   refine s_nil (r_false ?_)
   refine q_next ?_
   refine k_seq ?_
   refine a_if (fun hc2 => ?_) (fun hc2 => ?_)
   ·(try simp only [Bool.and_eq_true, Bool.or_eq_true, Bool.or_eq_false_iff, Bool.not_eq_true', Bool.not_eq_false', dec_t, dec_f, Bool.and_eq_false_imp, beq_iff_eq, beq_eq_false_iff_ne, ne_eq] at hc2)
    refine k_skip ?_
    refine q_next ?_
    refine k_seq ?_
    refine k_block ?_
    refine k_seq ?_
    refine k_region rfl ?_
    refine a_op ?_
    refine a_op (hc := by (rw [List.length_drop, Wr.cellsL_len]; omega)) ?_
    refine a_op ?_
    refine a_op ?_
    refine s_nil (r_false ?_)
    refine q_next ?_
    refine k_region rfl ?_
    refine a_op ?_
    refine a_op ?_
    refine a_callp [.p 0] [] [.p 0] false (IH (c ++ fmT put l i) (l.getD i default) (hml _ (mem_getD (by omega))) (by have h1 := fmT_len (put := put) (l := l) (i := i + 1); rw [fmT_next (by omega)] at h1; simp only [List.length_append, List.length_cons, List.length_nil, nb_len] at h1 ⊢; omega)) ?_
    refine a_op ?_
    refine s_nil (r_false ?_)
    refine q_block (q_next ?_)
    refine k_region rfl ?_
    refine a_op ?_
    refine a_op ?_
    refine s_nil (r_false ?_)
    have hil : i < l.length := by omega
    refine q_loopF (i + 1) (a_le ?_) ?_ ?_
    ·refine le_same ?_ ?_ ?_ <;> simp [-List.map_set, -List.map_replicate, -List.reduceReplicate, -List.map_map, -List.map_drop, -List.map_take, num, bol, txt, w8, w16, w32, w64, lst, cls, rowO, boxO, List.take_of_length_le, fmT_next hil, List.append_assoc] <;> (try omega)
    ·(first | omega | (simp_all <;> omega))
    ·(first | omega | (simp only []; omega))
   ·(try simp only [Bool.and_eq_true, Bool.or_eq_true, Bool.or_eq_false_iff, Bool.not_eq_true', Bool.not_eq_false', dec_t, dec_f, Bool.and_eq_false_imp, beq_iff_eq, beq_eq_false_iff_ne, ne_eq] at hc2)
    refine k_exit ?_
    refine q_seq_exit (q_loopF_exit (q_block_exit (q_next ?_)))
    refine k_seq ?_
    refine k_region rfl ?_
    refine a_op ?_
    refine a_op ?_
    refine s_nil (r_false ?_)
    refine q_next ?_
    refine k_ret ?_
    refine ⟨.inr rfl, a_ret [(.p 0, .p 0)] (by rw [results117]) ?_ ?_ ?_⟩ <;> simp [-List.map_set, -List.map_replicate, -List.reduceReplicate, -List.map_map, -List.map_drop, -List.map_take, num, bol, txt, w8, w16, w32, w64, lst, cls, rowO, boxO, List.take_of_length_le, putS_3', Wr.cellsL_len, wA, Wr.k, Wr.n, Wr.s, Wr.l, Wr.cellsL, erT, chT, chV, wvT, Wr.z, CUT, KS, LONGER, nb_len, hcc, show i = l.length from by omega] <;> (try omega)

theorem put0_step (Γ : Gl) (deep : Bool) (mayc : Wr → Bool) (put : Wr → List UInt8) (IH : ∀ (b : List UInt8) (w : Wr), mayc w = true → b.length + (put w).length ≤ 100000000 → Go.Ot.Good Γ prog 117 [.msl (.p 0) 0 (b).length 1, wA w] [rowO 5 w8 (b)] (.msl (.p 0) 0 (b ++ put w).length 1) [some (rowO 5 w8 (b ++ put w))] []) (w : Wr) (hm : mayS deep mayc w = true) (hlen : (putS put w).length ≤ 100000000) : Go.Ot.Good Γ prog 117 [.t (.v (.slice none 0 0)), wA w] [] (.t (lst w8 (putS put w))) [] [] := by
 refine a_body F.mix func117 (by rfl) ntmps117 ?_
 refine k_seq ?_
 refine k_region rfl ?_
 refine a_op ?_
 refine a_op ?_
 refine s_nil (r_false ?_)
 refine q_next ?_
 refine k_seq ?_
 refine k_region rfl ?_
 obtain ⟨k, n, s, l⟩ := w
 rcases mayS_k hm with rfl | ⟨rfl, hs⟩ | ⟨rfl, hl, hml⟩
 ·(try rw [putS_1] at hlen); (try rw [putS_2] at hlen); (try rw [putS_3'] at hlen); (try simp only [List.length_cons, List.length_append, nb_len] at hlen)
  iterate 3 refine a_op ?_
  refine a_cv8 ?_
  rw [show UInt8.ofInt 1 = 1 from rfl]
  iterate 3 refine a_op ?_
  refine s_nil (r_false ?_)
  refine q_next ?_
  refine k_seq ?_
  refine k_seq ?_
  refine k_region rfl ?_
  refine a_op ?_
  refine a_op ?_
  refine s_nil (r_false ?_)
  refine q_next ?_
  refine k_block ?_
  refine k_seq ?_
  refine k_region rfl ?_
  refine a_op ?_
  refine a_op ?_
  refine s_nil (r_false ?_)
  refine q_next ?_
  refine a_true ?_
  refine k_seq ?_
  refine k_region rfl ?_
  iterate 3 refine a_op ?_
  refine a_op (hs := by (simp only [push_cast, wrap_u64 n] <;> rfl)) ?_
  refine a_callp [.r 1 5 0] [] [.r 1 5 0] false (numput_good Γ ([1]) (u64 n) 8 (u64_lt _) (by omega) (by decide)) ?_
  refine a_op ?_
  refine s_nil (r_false ?_)
  refine q_next ?_
  refine k_ret ?_
  refine q_block_ret (q_seq_ret ?_)
  refine ⟨.inr rfl, a_ret [] (by rw [results117]) ?_ ?_ ?_⟩ <;> simp [-List.map_set, -List.map_replicate, -List.reduceReplicate, -List.map_map, -List.map_drop, -List.map_take, num, bol, txt, w8, w16, w32, w64, lst, cls, rowO, boxO, List.take_of_length_le, putS_1, Wr.cellsL_len, wA, Wr.k, Wr.n, Wr.s, Wr.l, Wr.cellsL, erT, chT, chV, wvT, Wr.z, CUT, KS, LONGER, nb_len] <;> (try omega)
 ·(try rw [putS_1] at hlen); (try rw [putS_2] at hlen); (try rw [putS_3'] at hlen); (try simp only [List.length_cons, List.length_append, nb_len] at hlen)
  iterate 3 refine a_op ?_
  refine a_cv8 ?_
  rw [show UInt8.ofInt 2 = 2 from rfl]
  iterate 3 refine a_op ?_
  refine s_nil (r_false ?_)
  refine q_next ?_
  refine k_seq ?_
  refine k_seq ?_
  refine k_region rfl ?_
  refine a_op ?_
  refine a_op ?_
  refine s_nil (r_false ?_)
  refine q_next ?_
  refine k_block ?_
  refine k_seq ?_
  refine k_region rfl ?_
  refine a_op ?_
  refine a_op ?_
  refine s_nil (r_false ?_)
  refine q_next ?_
  refine a_false ?_
  refine k_seq ?_
  refine k_region rfl ?_
  refine a_op ?_
  refine a_op ?_
  refine s_nil (r_false ?_)
  refine q_next ?_
  refine a_true ?_
  refine k_seq ?_
  refine g_start (.r 1 5 0) [0, 12, 24, 29] [] rfl ?_
  refine g_op ?_
  refine g_op ?_
  refine g_op ?_
  refine g_op ?_
  refine g_op ?_
  refine g_callp [.r 1 5 0] [] [.r 1 5 0] false (numput_good Γ ([2]) s.length 4 (by omega) (by omega) (by decide)) ?_
  refine g_op ?_
  refine g_op ?_
  refine g_op ?_
  refine g_op ?_
  refine g_nil ⟨g_ok (by kernel_rfl) (by kernel_rfl), ?_⟩
  refine q_next ?_
  refine k_ret ?_
  refine q_block_ret (q_seq_ret ?_)
  refine ⟨.inr rfl, a_ret [] (by rw [results117]) ?_ ?_ ?_⟩ <;> simp [-List.map_set, -List.map_replicate, -List.reduceReplicate, -List.map_map, -List.map_drop, -List.map_take, num, bol, txt, w8, w16, w32, w64, lst, cls, rowO, boxO, List.take_of_length_le, putS_2, Wr.cellsL_len, wA, Wr.k, Wr.n, Wr.s, Wr.l, Wr.cellsL, erT, chT, chV, wvT, Wr.z, CUT, KS, LONGER, nb_len] <;> (try omega)
 ·(try rw [putS_1] at hlen); (try rw [putS_2] at hlen); (try rw [putS_3'] at hlen); (try simp only [List.length_cons, List.length_append, nb_len] at hlen)
  iterate 3 refine a_op ?_
  refine a_cv8 ?_
  rw [show UInt8.ofInt 3 = 3 from rfl]
  iterate 3 refine a_op ?_
  refine s_nil (r_false ?_)
  refine q_next ?_
  refine k_seq ?_
  refine k_seq ?_
  refine k_region rfl ?_
  refine a_op ?_
  refine a_op ?_
  refine s_nil (r_false ?_)
  refine q_next ?_
  refine k_block ?_
  refine k_seq ?_
  refine k_region rfl ?_
  refine a_op ?_
  refine a_op ?_
  refine s_nil (r_false ?_)
  refine q_next ?_
  refine a_false ?_
  refine k_seq ?_
  refine k_region rfl ?_
  refine a_op ?_
  refine a_op ?_
  refine s_nil (r_false ?_)
  refine q_next ?_
  refine a_false ?_
  refine k_skip ?_
  refine q_block (q_next ?_)
  refine k_seq ?_
  refine k_region rfl ?_
  iterate 5 refine a_op ?_
  refine a_callp [.r 1 5 0] [] [.r 1 5 0] false (numput_good Γ ([3]) l.length 4 (by omega) (by omega) (by decide)) ?_
  refine a_op ?_
  refine s_nil (r_false ?_)
  refine q_next ?_
  refine k_seq ?_
  refine k_seq ?_
  refine k_region rfl ?_
  iterate 4 refine a_op ?_
  refine s_nil (r_false ?_)
  refine q_next ?_
  refine k_block ?_
  obtain ⟨c, hcc⟩ : ∃ c : List UInt8, c = [3] ++ nb 4 l.length := ⟨_, rfl⟩
  have hcl : c.length = 5 := by rw [hcc]; simp [nb_len]
  refine k_loopF (fun sl L (i : Nat) => ⟨setAll (setBad sl [1, 3, 6, 7, 8, 9, 10, 11, 12, 13, 14, 15, 16, 17, 18, 19, 20, 21, 22, 23, 24, 25, 26, 27, 28, 29, 30, 31, 32, 33, 34, 35, 36, 37, 38, 39, 43, 44, 45, 46, 47, 48, 49]) [(0, .msl (.r 1 5 0) 0 (c ++ fmT put l i).length 1), (42, .t (num i))], Go.Ot.look (putL (.r 1 5 0) (rowO 5 w8 (c ++ fmT put l i)) L)⟩) (fun i => i ≤ l.length) (fun i => l.length - i) (0) (a_le ?_) ?_ ?_
  ·refine le_of [(.r 1 5 0, .r 1 5 0), (.r 0 0 0, .r 0 0 0), (.r 1 4 0, .r 1 4 0)] ?_ ?_ ?_ <;> simp [-List.map_set, -List.map_replicate, -List.reduceReplicate, -List.map_map, -List.map_drop, -List.map_take, num, bol, txt, w8, w16, w32, w64, lst, cls, rowO, boxO, List.take_of_length_le, hcc, nb_len, fmT_zero] <;> (try omega)
  ·(first | omega | simp)
  ·intro i hi
   have hfl := fmT_len (put := put) (l := l) (i := i)
   refine a_st ?_
   refine k_seq ?_
   refine k_region rfl ?_
   refine a_op ?_
   refine s_nil (r_false ?_)
   refine q_next ?_
   refine k_seq ?_
   refine a_if (fun hc2 => ?_) (fun hc2 => ?_)
   ·(try simp only [Bool.and_eq_true, Bool.or_eq_true, Bool.or_eq_false_iff, Bool.not_eq_true', Bool.not_eq_false', dec_t, dec_f, Bool.and_eq_false_imp, beq_iff_eq, beq_eq_false_iff_ne, ne_eq] at hc2)
    refine k_skip ?_
    refine q_next ?_
    refine k_seq ?_
    refine k_block ?_
    refine k_seq ?_
    refine k_region rfl ?_
    refine a_op ?_
    refine a_op (hc := by (rw [List.length_drop, Wr.cellsL_len]; omega)) ?_
    refine a_op ?_
    refine a_op ?_
    refine s_nil (r_false ?_)
    refine q_next ?_
    refine k_region rfl ?_
    refine a_op ?_
    refine a_op ?_
    refine a_callp [.r 1 5 0] [] [.r 1 5 0] false (IH (c ++ fmT put l i) (l.getD i default) (hml _ (mem_getD (by omega))) (by have h1 := fmT_len (put := put) (l := l) (i := i + 1); rw [fmT_next (by omega)] at h1; simp only [List.length_append, List.length_cons, List.length_nil, nb_len] at h1 ⊢; omega)) ?_
    refine a_op ?_
    refine s_nil (r_false ?_)
    refine q_block (q_next ?_)
    refine k_region rfl ?_
    refine a_op ?_
    refine a_op ?_
    refine s_nil (r_false ?_)
    have hil : i < l.length := by omega
    refine q_loopF (i + 1) (a_le ?_) ?_ ?_
    ·refine le_same ?_ ?_ ?_ <;> simp [-List.map_set, -List.map_replicate, -List.reduceReplicate, -List.map_map, -List.map_drop, -List.map_take, num, bol, txt, w8, w16, w32, w64, lst, cls, rowO, boxO, List.take_of_length_le, fmT_next hil, List.append_assoc] <;> (try omega)
    ·(first | omega | (simp_all <;> omega))
    ·(first | omega | (simp only []; omega))
   ·(try simp only [Bool.and_eq_true, Bool.or_eq_true, Bool.or_eq_false_iff, Bool.not_eq_true', Bool.not_eq_false', dec_t, dec_f, Bool.and_eq_false_imp, beq_iff_eq, beq_eq_false_iff_ne, ne_eq] at hc2)
    refine k_exit ?_
    refine q_seq_exit (q_loopF_exit (q_block_exit (q_next ?_)))
    refine k_seq ?_
    refine k_region rfl ?_
    refine a_op ?_
    refine a_op ?_
    refine s_nil (r_false ?_)
    refine q_next ?_
    refine k_ret ?_
    refine ⟨.inr rfl, a_ret [] (by rw [results117]) ?_ ?_ ?_⟩ <;> simp [-List.map_set, -List.map_replicate, -List.reduceReplicate, -List.map_map, -List.map_drop, -List.map_take, num, bol, txt, w8, w16, w32, w64, lst, cls, rowO, boxO, List.take_of_length_le, putS_3', Wr.cellsL_len, wA, Wr.k, Wr.n, Wr.s, Wr.l, Wr.cellsL, erT, chT, chV, wvT, Wr.z, CUT, KS, LONGER, nb_len, hcc, show i = l.length from by omega] <;> (try omega)

end Go.Proofs.Tryz
