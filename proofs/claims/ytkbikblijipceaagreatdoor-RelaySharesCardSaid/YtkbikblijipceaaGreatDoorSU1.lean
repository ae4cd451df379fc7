/- Contracts of this program's functions. -/
import Derived.Test.YtkbikblijipceaaGreatDoorSU0
set_option maxHeartbeats 4000000
set_option maxRecDepth 100000
set_option linter.unusedVariables false
set_option linter.unusedSimpArgs false
namespace Go.Proofs.Tryz
open Go Go.Ot
attribute [local irreducible] wpK wpS seqK blockK loopF regK meetK OpSpec Le rdS lpW rdW got mayS mayW ixF putS putW nb nbS u64 fmT PutW
theorem Eight_good (Γ : Gl) (n : Int) : Go.Ot.Good Γ prog 123 [.t (num n)] [] (.t (txt (nb 8 (u64 n)))) [] [] := by
 refine a_body F.mix func123 (by rfl) ntmps123 ?_
 refine k_seq ?_
 refine k_region rfl ?_
 refine a_op ?_
 refine s_nil (r_false ?_)
 refine q_next ?_
 refine k_seq ?_
 refine k_region rfl ?_
 refine a_op ?_
 refine a_op (hs := by (simp only [push_cast, wrap_u64 n] <;> rfl)) ?_
 refine a_op ?_
 refine s_nil (r_false ?_)
 refine q_next ?_
 refine k_seq ?_
 refine k_region rfl ?_
 refine a_op ?_
 refine s_nil (r_false ?_)
 refine q_next ?_
 refine k_seq ?_
 refine k_seq ?_
 refine k_region rfl ?_
 refine a_op ?_
 refine s_nil (r_false ?_)
 refine q_next ?_
 refine k_block ?_
 refine k_loopF (fun sl L (j : Nat) => ⟨setAll (setBad sl [0, 6, 7, 8, 9, 10, 11, 12, 13, 14, 15, 16, 17, 18, 19, 20, 21]) [(4, .msl (.n 9) 0 (nbS 8 (u64 n) j).length 1), (5, .t (num j))], Go.Ot.look (putL (.n 9) (rowO 5 w8 (nbS 8 (u64 n) j)) L)⟩) (fun j => j ≤ 8) (fun j => 8 - j) (0) (a_le ?_) ?_ ?_
 ·refine le_of [] ?_ ?_ ?_ <;> simp [-List.map_set, -List.map_replicate, -List.reduceReplicate, -List.map_map, -List.map_drop, -List.map_take, num, bol, txt, w8, w16, w32, w64, lst, cls, rowO, boxO, List.take_of_length_le, nbS_zero] <;> (try omega)
 ·(first | omega | simp)
 ·intro j hj
  have hnl := nbS_len 8 (u64 n) j
  have hul := u64_lt n
  refine a_st ?_
  refine k_seq ?_
  refine k_seq ?_
  refine k_region rfl ?_
  refine a_op ?_
  refine a_op ?_
  refine s_nil (r_false ?_)
  refine q_next ?_
  refine a_if (fun hc0 => ?_) (fun hc0 => ?_)
  ·(try simp only [Bool.and_eq_true, Bool.or_eq_true, Bool.or_eq_false_iff, Bool.not_eq_true', Bool.not_eq_false', dec_t, dec_f, Bool.and_eq_false_imp, beq_iff_eq, beq_eq_false_iff_ne, ne_eq] at hc0)
   refine k_skip ?_
   refine q_next ?_
   refine k_seq ?_
   refine k_block ?_
   refine k_region rfl ?_
   iterate 7 refine a_op ?_
   refine a_cv8 ?_
   rw [show min ((56 : Int) - 8 * (j : Int)).toNat 64 = 8 * (8 - 1 - j) from by omega, byte_shr]
   iterate 3 refine a_op ?_
   refine s_nil (r_false ?_)
   refine q_block (q_next ?_)
   refine k_region rfl ?_
   iterate 3 refine a_op ?_
   refine s_nil (r_false ?_)
   refine q_loopF (j + 1) (a_le ?_) ?_ ?_
   ·refine le_of [(.n 9, .n 9)] ?_ ?_ ?_ <;> simp [-List.map_set, -List.map_replicate, -List.reduceReplicate, -List.map_map, -List.map_drop, -List.map_take, num, bol, txt, w8, w16, w32, w64, lst, cls, rowO, boxO, List.take_of_length_le, nbS_succ, List.append_assoc] <;> (try omega)
   ·(first | omega | (simp_all <;> omega))
   ·(first | omega | (simp only []; omega))
  ·(try simp only [Bool.and_eq_true, Bool.or_eq_true, Bool.or_eq_false_iff, Bool.not_eq_true', Bool.not_eq_false', dec_t, dec_f, Bool.and_eq_false_imp, beq_iff_eq, beq_eq_false_iff_ne, ne_eq] at hc0)
   refine k_exit ?_
   refine q_seq_exit (q_loopF_exit (q_block_exit (q_next ?_)))
   refine k_seq ?_
   refine k_region rfl ?_
   obtain rfl : j = 8 := by omega
   have hfu := nbS_full 8 (u64 n)
   refine a_op ?_
   first | refine a_text ?_ | refine a_texts ?_
   refine a_op ?_
   refine s_nil (r_false ?_)
   refine q_next ?_
   refine k_ret ?_
   refine ⟨.inr rfl, a_ret [] (by rw [results123]) ?_ ?_ ?_⟩ <;> simp [-List.map_set, -List.map_replicate, -List.reduceReplicate, -List.map_map, -List.map_drop, -List.map_take, num, bol, txt, w8, w16, w32, w64, lst, cls, rowO, boxO, List.take_of_length_le, hfu]

theorem four_good (Γ : Gl) (n : Nat) (hn : n < 4294967296) : Go.Ot.Good Γ prog 136 [.t (num n)] [] (.t (txt (nb 4 n))) [] [] := by
 have h8 := nb8_drop n hn
 have hu := u64_nat (n := n) (by omega)
 have hl := nb_len 8 n
 refine a_body F.mix func136 (by rfl) ntmps136 ?_
 refine k_seq ?_
 refine k_region rfl ?_
 refine a_op ?_
 refine s_nil (r_false ?_)
 refine q_next ?_
 refine k_seq ?_
 refine k_region rfl ?_
 refine a_op ?_
 refine a_call [] false ((by have h := Eight_good Γ n; rw [hu] at h; exact h)) ?_
 refine a_op ?_
 refine a_op ?_
 refine s_nil (r_false ?_)
 refine q_next ?_
 refine k_ret ?_
 refine ⟨.inr rfl, a_ret [] (by rw [results136]) ?_ ?_ ?_⟩ <;> simp [-List.map_set, -List.map_replicate, -List.reduceReplicate, -List.map_map, -List.map_drop, -List.map_take, num, bol, txt, w8, w16, w32, w64, lst, cls, rowO, boxO, List.take_of_length_le, h8]

theorem rput_step (Γ : Gl) (deep : Bool) (mayc : Wr → Bool) (put : Wr → List UInt8) (IH : ∀ (b : List UInt8) (w : Wr), mayc w = true → b.length + (put w).length ≤ 100000000 → Go.Ot.Good Γ prog 101 [.msl (.p 0) 0 (b).length 1, wA w] [rowO 5 w8 (b)] (.msl (.p 0) 0 (b ++ put w).length 1) [some (rowO 5 w8 (b ++ put w))] []) (b : List UInt8) (w : Wr) (hm : mayS deep mayc w = true) (hlen : b.length + (putS put w).length ≤ 100000000) : Go.Ot.Good Γ prog 101 [.msl (.p 0) 0 (b).length 1, wA w] [rowO 5 w8 (b)] (.msl (.p 0) 0 (b ++ putS put w).length 1) [some (rowO 5 w8 (b ++ putS put w))] [] := by
 refine a_body F.mix func101 (by rfl) ntmps101 ?_
 refine k_seq ?_
 refine k_region rfl ?_
 refine a_op ?_
 refine a_op ?_
 refine s_nil (r_false ?_)
 refine q_next ?_
 refine k_seq ?_
 refine k_region rfl ?_
 obtain ⟨k, n, s, l⟩ := w
 rcases mayS_k hm with rfl | ⟨rfl, hs⟩ | ⟨rfl, hl, hml⟩
 ·(try rw [putS_1] at hlen); (try rw [putS_2] at hlen); (try rw [putS_3'] at hlen); (try simp only [List.length_cons, List.length_append, nb_len] at hlen)
  iterate 3 refine a_op ?_
  refine a_cv8 ?_
  rw [show UInt8.ofInt 1 = 1 from rfl]
  iterate 3 refine a_op ?_
  refine s_nil (r_false ?_)
  refine q_next ?_
  refine k_seq ?_
  refine k_seq ?_
  refine k_region rfl ?_
  refine a_op ?_
  refine a_op ?_
  refine s_nil (r_false ?_)
  refine q_next ?_
  refine k_block ?_
  refine k_seq ?_
  refine k_region rfl ?_
  refine a_op ?_
  refine a_op ?_
  refine s_nil (r_false ?_)
  refine q_next ?_
  refine a_true ?_
  refine k_seq ?_
  refine k_region rfl ?_
  iterate 3 refine a_op ?_
  refine a_call [] false (Eight_good Γ n) ?_
  refine a_op ?_
  refine a_op ?_
  refine s_nil (r_false ?_)
  refine q_next ?_
  refine k_ret ?_
  refine q_block_ret (q_seq_ret ?_)
  refine ⟨.inr rfl, a_ret [(.p 0, .p 0)] (by rw [results101]) ?_ ?_ ?_⟩ <;> simp [-List.map_set, -List.map_replicate, -List.reduceReplicate, -List.map_map, -List.map_drop, -List.map_take, num, bol, txt, w8, w16, w32, w64, lst, cls, rowO, boxO, List.take_of_length_le, putS_1, Wr.cellsL_len, wA, Wr.k, Wr.n, Wr.s, Wr.l, Wr.cellsL, erT, chT, chV, wvT, Wr.z, CUT, KS, LONGER, nb_len] <;> (try omega)
 ·(try rw [putS_1] at hlen); (try rw [putS_2] at hlen); (try rw [putS_3'] at hlen); (try simp only [List.length_cons, List.length_append, nb_len] at hlen)
  iterate 3 refine a_op ?_
  refine a_cv8 ?_
  rw [show UInt8.ofInt 2 = 2 from rfl]
  iterate 3 refine a_op ?_
  refine s_nil (r_false ?_)
  refine q_next ?_
  refine k_seq ?_
  refine k_seq ?_
  refine k_region rfl ?_
  refine a_op ?_
  refine a_op ?_
  refine s_nil (r_false ?_)
  refine q_next ?_
  refine k_block ?_
  refine k_seq ?_
  refine k_region rfl ?_
  refine a_op ?_
  refine a_op ?_
  refine s_nil (r_false ?_)
  refine q_next ?_
  refine a_false ?_
  refine k_seq ?_
  refine k_region rfl ?_
  refine a_op ?_
  refine a_op ?_
  refine s_nil (r_false ?_)
  refine q_next ?_
  refine a_true ?_
  refine k_seq ?_
  refine k_region rfl ?_
  iterate 4 refine a_op ?_
  refine a_call [] false (four_good Γ s.length (by omega)) ?_
  refine a_op ?_
  refine a_op ?_
  refine s_nil (r_false ?_)
  refine q_next ?_
  refine k_seq ?_
  refine k_region rfl ?_
  iterate 5 refine a_op ?_
  refine s_nil (r_false ?_)
  refine q_next ?_
  refine k_ret ?_
  refine q_block_ret (q_seq_ret ?_)
  refine ⟨.inr rfl, a_ret [(.p 0, .p 0)] (by rw [results101]) ?_ ?_ ?_⟩ <;> simp [-List.map_set, -List.map_replicate, -List.reduceReplicate, -List.map_map, -List.map_drop, -List.map_take, num, bol, txt, w8, w16, w32, w64, lst, cls, rowO, boxO, List.take_of_length_le, putS_2, Wr.cellsL_len, wA, Wr.k, Wr.n, Wr.s, Wr.l, Wr.cellsL, erT, chT, chV, wvT, Wr.z, CUT, KS, LONGER, nb_len] <;> (try omega)
 ·(try rw [putS_1] at hlen); (try rw [putS_2] at hlen); (try rw [putS_3'] at hlen); (try simp only [List.length_cons, List.length_append, nb_len] at hlen)
  iterate 3 refine a_op ?_
  refine a_cv8 ?_
  rw [show UInt8.ofInt 3 = 3 from rfl]
  iterate 3 refine a_op ?_
  refine s_nil (r_false ?_)
  refine q_next ?_
  refine k_seq ?_
  refine k_seq ?_
  refine k_region rfl ?_
  refine a_op ?_
  refine a_op ?_
  refine s_nil (r_false ?_)
  refine q_next ?_
  refine k_block ?_
  refine k_seq ?_
  refine k_region rfl ?_
  refine a_op ?_
  refine a_op ?_
  refine s_nil (r_false ?_)
  refine q_next ?_
  refine a_false ?_
  refine k_seq ?_
  refine k_region rfl ?_
  refine a_op ?_
  refine a_op ?_
  refine s_nil (r_false ?_)
  refine q_next ?_
  refine a_false ?_
  refine k_skip ?_
  refine q_block (q_next ?_)
  refine k_seq ?_
  refine k_region rfl ?_
  iterate 4 refine a_op ?_
  refine a_call [] false (four_good Γ l.length (by omega)) ?_
  refine a_op ?_
  refine a_op ?_
  refine s_nil (r_false ?_)
  refine q_next ?_
  refine k_seq ?_
  refine k_seq ?_
  refine k_region rfl ?_
  refine a_op ?_
  refine s_nil (r_false ?_)
  refine q_next ?_
  refine k_block ?_
  obtain ⟨c, hcc⟩ : ∃ c : List UInt8, c = b ++ [3] ++ nb 4 l.length := ⟨_, rfl⟩
  have hcl : c.length = b.length + 5 := by rw [hcc]; simp [nb_len]
  refine k_loopF (fun sl L (i : Nat) => ⟨setAll (setBad sl [1, 6, 7, 8, 9, 10, 11, 12, 13, 14, 15, 16, 17, 18, 19, 20, 21, 22, 23, 24, 25, 26, 27, 28, 29, 30, 31, 32, 33, 34, 35, 36, 37, 38, 39, 40, 41, 42, 43, 44, 45, 46, 47, 48, 49, 50, 51, 52]) [(0, .msl (.p 0) 0 (c ++ fmT put l i).length 1), (5, .t (num i))], Go.Ot.look (putL (.p 0) (rowO 5 w8 (c ++ fmT put l i)) L)⟩) (fun i => i ≤ l.length) (fun i => l.length - i) (0) (a_le ?_) ?_ ?_
  ·refine le_of [(.p 0, .p 0), (.r 0 0 0, .r 0 0 0), (.r 1 4 0, .r 1 4 0)] ?_ ?_ ?_ <;> simp [-List.map_set, -List.map_replicate, -List.reduceReplicate, -List.map_map, -List.map_drop, -List.map_take, num, bol, txt, w8, w16, w32, w64, lst, cls, rowO, boxO, List.take_of_length_le, hcc, nb_len, fmT_zero] <;> (try omega)
  ·(first | omega | simp)
  ·intro i hi
   have hfl := fmT_len (put := put) (l := l) (i := i)
   refine a_st ?_
   refine k_seq ?_
   refine k_seq ?_
   refine k_region rfl ?_
   iterate 5 refine a_op ?_
   refine s_nil (r_false ?_)
   refine q_next ?_
   refine a_if (fun hc2 => ?_) (fun hc2 => ?_)
   ·(try simp only [Bool.and_eq_true, Bool.or_eq_true, Bool.or_eq_false_iff, Bool.not_eq_true', Bool.not_eq_false', dec_t, dec_f, Bool.and_eq_false_imp, beq_iff_eq, beq_eq_false_iff_ne, ne_eq] at hc2)
    refine k_skip ?_
    refine q_next ?_
    refine k_seq ?_
    refine k_block ?_
    refine k_region rfl ?_
    iterate 5 refine a_op ?_
    refine a_op (hc := by (rw [List.length_drop, Wr.cellsL_len]; omega)) ?_
    refine a_callp [.p 0] [] [.p 0] false (IH (c ++ fmT put l i) (l.getD i default) (hml _ (mem_getD (by omega))) (by have h1 := fmT_len (put := put) (l := l) (i := i + 1); rw [fmT_next (by omega)] at h1; simp only [List.length_append, List.length_cons, List.length_nil, nb_len] at h1 ⊢; omega)) ?_
    refine a_op ?_
    refine s_nil (r_false ?_)
    refine q_block (q_next ?_)
    refine k_region rfl ?_
    iterate 3 refine a_op ?_
    refine s_nil (r_false ?_)
    have hil : i < l.length := by omega
    refine q_loopF (i + 1) (a_le ?_) ?_ ?_
    ·refine le_same ?_ ?_ ?_ <;> simp [-List.map_set, -List.map_replicate, -List.reduceReplicate, -List.map_map, -List.map_drop, -List.map_take, num, bol, txt, w8, w16, w32, w64, lst, cls, rowO, boxO, List.take_of_length_le, fmT_next hil, List.append_assoc] <;> (try omega)
    ·(first | omega | (simp_all <;> omega))
    ·(first | omega | (simp only []; omega))
   ·(try simp only [Bool.and_eq_true, Bool.or_eq_true, Bool.or_eq_false_iff, Bool.not_eq_true', Bool.not_eq_false', dec_t, dec_f, Bool.and_eq_false_imp, beq_iff_eq, beq_eq_false_iff_ne, ne_eq] at hc2)
    refine k_exit ?_
    refine q_seq_exit (q_loopF_exit (q_block_exit (q_next ?_)))
    refine k_seq ?_
    refine k_region rfl ?_
    refine a_op ?_
    refine a_op ?_
    refine s_nil (r_false ?_)
    refine q_next ?_
    refine k_ret ?_
    refine ⟨.inr rfl, a_ret [(.p 0, .p 0)] (by rw [results101]) ?_ ?_ ?_⟩ <;> simp [-List.map_set, -List.map_replicate, -List.reduceReplicate, -List.map_map, -List.map_drop, -List.map_take, num, bol, txt, w8, w16, w32, w64, lst, cls, rowO, boxO, List.take_of_length_le, putS_3', Wr.cellsL_len, wA, Wr.k, Wr.n, Wr.s, Wr.l, Wr.cellsL, erT, chT, chV, wvT, Wr.z, CUT, KS, LONGER, nb_len, hcc, show i = l.length from by omega] <;> (try omega)

theorem rput0_step (Γ : Gl) (deep : Bool) (mayc : Wr → Bool) (put : Wr → List UInt8) (IH : ∀ (b : List UInt8) (w : Wr), mayc w = true → b.length + (put w).length ≤ 100000000 → Go.Ot.Good Γ prog 101 [.msl (.p 0) 0 (b).length 1, wA w] [rowO 5 w8 (b)] (.msl (.p 0) 0 (b ++ put w).length 1) [some (rowO 5 w8 (b ++ put w))] []) (w : Wr) (hm : mayS deep mayc w = true) (hlen : (putS put w).length ≤ 100000000) : Go.Ot.Good Γ prog 101 [.t (.v (.slice none 0 0)), wA w] [] (.t (lst w8 (putS put w))) [] [] := by
 refine a_body F.mix func101 (by rfl) ntmps101 ?_
 refine k_seq ?_
 refine k_region rfl ?_
 refine a_op ?_
 refine a_op ?_
 refine s_nil (r_false ?_)
 refine q_next ?_
 refine k_seq ?_
 refine k_region rfl ?_
 obtain ⟨k, n, s, l⟩ := w
 rcases mayS_k hm with rfl | ⟨rfl, hs⟩ | ⟨rfl, hl, hml⟩
 ·(try rw [putS_1] at hlen); (try rw [putS_2] at hlen); (try rw [putS_3'] at hlen); (try simp only [List.length_cons, List.length_append, nb_len] at hlen)
  iterate 3 refine a_op ?_
  refine a_cv8 ?_
  rw [show UInt8.ofInt 1 = 1 from rfl]
  iterate 3 refine a_op ?_
  refine s_nil (r_false ?_)
  refine q_next ?_
  refine k_seq ?_
  refine k_seq ?_
  refine k_region rfl ?_
  refine a_op ?_
  refine a_op ?_
  refine s_nil (r_false ?_)
  refine q_next ?_
  refine k_block ?_
  refine k_seq ?_
  refine k_region rfl ?_
  refine a_op ?_
  refine a_op ?_
  refine s_nil (r_false ?_)
  refine q_next ?_
  refine a_true ?_
  refine k_seq ?_
  refine k_region rfl ?_
  iterate 3 refine a_op ?_
  refine a_call [] false (Eight_good Γ n) ?_
  refine a_op ?_
  refine a_op ?_
  refine s_nil (r_false ?_)
  refine q_next ?_
  refine k_ret ?_
  refine q_block_ret (q_seq_ret ?_)
  refine ⟨.inr rfl, a_ret [] (by rw [results101]) ?_ ?_ ?_⟩ <;> simp [-List.map_set, -List.map_replicate, -List.reduceReplicate, -List.map_map, -List.map_drop, -List.map_take, num, bol, txt, w8, w16, w32, w64, lst, cls, rowO, boxO, List.take_of_length_le, putS_1, Wr.cellsL_len, wA, Wr.k, Wr.n, Wr.s, Wr.l, Wr.cellsL, erT, chT, chV, wvT, Wr.z, CUT, KS, LONGER, nb_len] <;> (try omega)
 ·(try rw [putS_1] at hlen); (try rw [putS_2] at hlen); (try rw [putS_3'] at hlen); (try simp only [List.length_cons, List.length_append, nb_len] at hlen)
  iterate 3 refine a_op ?_
  refine a_cv8 ?_
  rw [show UInt8.ofInt 2 = 2 from rfl]
  iterate 3 refine a_op ?_
  refine s_nil (r_false ?_)
  refine q_next ?_
  refine k_seq ?_
  refine k_seq ?_
  refine k_region rfl ?_
  refine a_op ?_
  refine a_op ?_
  refine s_nil (r_false ?_)
  refine q_next ?_
  refine k_block ?_
  refine k_seq ?_
  refine k_region rfl ?_
  refine a_op ?_
  refine a_op ?_
  refine s_nil (r_false ?_)
  refine q_next ?_
  refine a_false ?_
  refine k_seq ?_
  refine k_region rfl ?_
  refine a_op ?_
  refine a_op ?_
  refine s_nil (r_false ?_)
  refine q_next ?_
  refine a_true ?_
  refine k_seq ?_
  refine k_region rfl ?_
  iterate 4 refine a_op ?_
  refine a_call [] false (four_good Γ s.length (by omega)) ?_
  refine a_op ?_
  refine a_op ?_
  refine s_nil (r_false ?_)
  refine q_next ?_
  refine k_seq ?_
  refine k_region rfl ?_
  iterate 5 refine a_op ?_
  refine s_nil (r_false ?_)
  refine q_next ?_
  refine k_ret ?_
  refine q_block_ret (q_seq_ret ?_)
  refine ⟨.inr rfl, a_ret [] (by rw [results101]) ?_ ?_ ?_⟩ <;> simp [-List.map_set, -List.map_replicate, -List.reduceReplicate, -List.map_map, -List.map_drop, -List.map_take, num, bol, txt, w8, w16, w32, w64, lst, cls, rowO, boxO, List.take_of_length_le, putS_2, Wr.cellsL_len, wA, Wr.k, Wr.n, Wr.s, Wr.l, Wr.cellsL, erT, chT, chV, wvT, Wr.z, CUT, KS, LONGER, nb_len] <;> (try omega)
 ·(try rw [putS_1] at hlen); (try rw [putS_2] at hlen); (try rw [putS_3'] at hlen); (try simp only [List.length_cons, List.length_append, nb_len] at hlen)
  iterate 3 refine a_op ?_
  refine a_cv8 ?_
  rw [show UInt8.ofInt 3 = 3 from rfl]
  iterate 3 refine a_op ?_
  refine s_nil (r_false ?_)
  refine q_next ?_
  refine k_seq ?_
  refine k_seq ?_
  refine k_region rfl ?_
  refine a_op ?_
  refine a_op ?_
  refine s_nil (r_false ?_)
  refine q_next ?_
  refine k_block ?_
  refine k_seq ?_
  refine k_region rfl ?_
  refine a_op ?_
  refine a_op ?_
  refine s_nil (r_false ?_)
  refine q_next ?_
  refine a_false ?_
  refine k_seq ?_
  refine k_region rfl ?_
  refine a_op ?_
  refine a_op ?_
  refine s_nil (r_false ?_)
  refine q_next ?_
  refine a_false ?_
  refine k_skip ?_
  refine q_block (q_next ?_)
  refine k_seq ?_
  refine k_region rfl ?_
  iterate 4 refine a_op ?_
  refine a_call [] false (four_good Γ l.length (by omega)) ?_
  refine a_op ?_
  refine a_op ?_
  refine s_nil (r_false ?_)
  refine q_next ?_
  refine k_seq ?_
  refine k_seq ?_
  refine k_region rfl ?_
  refine a_op ?_
  refine s_nil (r_false ?_)
  refine q_next ?_
  refine k_block ?_
  obtain ⟨c, hcc⟩ : ∃ c : List UInt8, c = [3] ++ nb 4 l.length := ⟨_, rfl⟩
  have hcl : c.length = 5 := by rw [hcc]; simp [nb_len]
  refine k_loopF (fun sl L (i : Nat) => ⟨setAll (setBad sl [1, 6, 7, 8, 9, 10, 11, 12, 13, 14, 15, 16, 17, 18, 19, 20, 21, 22, 23, 24, 25, 26, 27, 28, 29, 30, 31, 32, 33, 34, 35, 36, 37, 38, 39, 40, 41, 42, 43, 44, 45, 46, 47, 48, 49, 50, 51, 52]) [(0, .msl (.r 1 5 0) 0 (c ++ fmT put l i).length 1), (5, .t (num i))], Go.Ot.look (putL (.r 1 5 0) (rowO 5 w8 (c ++ fmT put l i)) L)⟩) (fun i => i ≤ l.length) (fun i => l.length - i) (0) (a_le ?_) ?_ ?_
  ·refine le_of [(.r 1 5 0, .r 1 5 0), (.r 0 0 0, .r 0 0 0), (.r 1 4 0, .r 1 4 0)] ?_ ?_ ?_ <;> simp [-List.map_set, -List.map_replicate, -List.reduceReplicate, -List.map_map, -List.map_drop, -List.map_take, num, bol, txt, w8, w16, w32, w64, lst, cls, rowO, boxO, List.take_of_length_le, hcc, nb_len, fmT_zero] <;> (try omega)
  ·(first | omega | simp)
  ·intro i hi
   have hfl := fmT_len (put := put) (l := l) (i := i)
   refine a_st ?_
   refine k_seq ?_
   refine k_seq ?_
   refine k_region rfl ?_
   iterate 5 refine a_op ?_
   refine s_nil (r_false ?_)
   refine q_next ?_
   refine a_if (fun hc2 => ?_) (fun hc2 => ?_)
   ·(try simp only [Bool.and_eq_true, Bool.or_eq_true, Bool.or_eq_false_iff, Bool.not_eq_true', Bool.not_eq_false', dec_t, dec_f, Bool.and_eq_false_imp, beq_iff_eq, beq_eq_false_iff_ne, ne_eq] at hc2)
    refine k_skip ?_
    refine q_next ?_
    refine k_seq ?_
    refine k_block ?_
    refine k_region rfl ?_
    iterate 5 refine a_op ?_
    refine a_op (hc := by (rw [List.length_drop, Wr.cellsL_len]; omega)) ?_
    refine a_callp [.r 1 5 0] [] [.r 1 5 0] false (IH (c ++ fmT put l i) (l.getD i default) (hml _ (mem_getD (by omega))) (by have h1 := fmT_len (put := put) (l := l) (i := i + 1); rw [fmT_next (by omega)] at h1; simp only [List.length_append, List.length_cons, List.length_nil, nb_len] at h1 ⊢; omega)) ?_
    refine a_op ?_
    refine s_nil (r_false ?_)
    refine q_block (q_next ?_)
    refine k_region rfl ?_
    iterate 3 refine a_op ?_
    refine s_nil (r_false ?_)
    have hil : i < l.length := by omega
    refine q_loopF (i + 1) (a_le ?_) ?_ ?_
    ·refine le_same ?_ ?_ ?_ <;> simp [-List.map_set, -List.map_replicate, -List.reduceReplicate, -List.map_map, -List.map_drop, -List.map_take, num, bol, txt, w8, w16, w32, w64, lst, cls, rowO, boxO, List.take_of_length_le, fmT_next hil, List.append_assoc] <;> (try omega)
    ·(first | omega | (simp_all <;> omega))
    ·(first | omega | (simp only []; omega))
   ·(try simp only [Bool.and_eq_true, Bool.or_eq_true, Bool.or_eq_false_iff, Bool.not_eq_true', Bool.not_eq_false', dec_t, dec_f, Bool.and_eq_false_imp, beq_iff_eq, beq_eq_false_iff_ne, ne_eq] at hc2)
    refine k_exit ?_
    refine q_seq_exit (q_loopF_exit (q_block_exit (q_next ?_)))
    refine k_seq ?_
    refine k_region rfl ?_
    refine a_op ?_
    refine a_op ?_
    refine s_nil (r_false ?_)
    refine q_next ?_
    refine k_ret ?_
    refine ⟨.inr rfl, a_ret [] (by rw [results101]) ?_ ?_ ?_⟩ <;> simp [-List.map_set, -List.map_replicate, -List.reduceReplicate, -List.map_map, -List.map_drop, -List.map_take, num, bol, txt, w8, w16, w32, w64, lst, cls, rowO, boxO, List.take_of_length_le, putS_3', Wr.cellsL_len, wA, Wr.k, Wr.n, Wr.s, Wr.l, Wr.cellsL, erT, chT, chV, wvT, Wr.z, CUT, KS, LONGER, nb_len, hcc, show i = l.length from by omega] <;> (try omega)

theorem rput_good (Γ : Gl) : ∀ (d : Nat) (b : List UInt8) (w : Wr), mayW d w = true → b.length + (putW d w).length ≤ 100000000 → Go.Ot.Good Γ prog 101 [.msl (.p 0) 0 b.length 1, wA w] [rowO 5 w8 b] (.msl (.p 0) 0 (b ++ putW d w).length 1) [some (rowO 5 w8 (b ++ putW d w))] []
 | 0, b, w, hm, hl => by
  rw [putW_z] at hl ⊢; rw [mayW_z] at hm
  exact rput_step Γ false (fun _ => false) (fun _ => []) (fun b w h => by cases h) b w hm hl
 | d + 1, b, w, hm, hl => by
  rw [putW_s] at hl ⊢; rw [mayW_s] at hm
  exact rput_step Γ true (mayW d) (putW d) (fun b w h hl => rput_good Γ d b w h hl) b w hm hl
theorem rput0_good (Γ : Gl) : ∀ (d : Nat) (w : Wr), mayW d w = true → (putW d w).length ≤ 100000000 → Go.Ot.Good Γ prog 101 [.t (.v (.slice none 0 0)), wA w] [] (.t (lst w8 (putW d w))) [] []
 | 0, w, hm, hl => by
  rw [putW_z] at hl ⊢; rw [mayW_z] at hm
  exact rput0_step Γ false (fun _ => false) (fun _ => []) (fun b w h => by cases h) w hm hl
 | d + 1, w, hm, hl => by
  rw [putW_s] at hl ⊢; rw [mayW_s] at hm
  exact rput0_step Γ true (mayW d) (putW d) (fun b w h hl => rput_good Γ d b w h hl) w hm hl
theorem PutR_t (Γ : Gl) (w : Wr) (hw : w.sz ≤ 1000000) (h : mayW 6 w = true) (hl : (putW 6 w).length ≤ 100000000) : Go.Ot.Good Γ prog 40 [wA w] [] (.t (txt (PutW w))) [] [] := by
 refine a_body F.mix func40 (by rfl) ntmps40 ?_
 refine k_seq ?_
 refine k_region rfl ?_
 refine a_op ?_
 refine a_op ?_
 refine s_nil (r_false ?_)
 refine q_next ?_
 refine k_seq ?_
 refine k_seq ?_
 refine k_region rfl ?_
 refine a_op ?_
 refine a_call [] false (by have := MayR_good Γ w hw; rw [h] at this; exact this) ?_
 refine a_op ?_
 refine s_nil (r_false ?_)
 refine q_next ?_
 refine a_false ?_
 refine k_skip ?_
 refine q_next ?_
 refine k_seq ?_
 refine k_region rfl ?_
 refine a_op ?_
 refine a_call [] true (rput0_good Γ 6 w h hl) ?_
 first | refine a_text ?_ | refine a_texts ?_
 refine a_op ?_
 refine s_nil (r_false ?_)
 refine q_next ?_
 refine k_ret ?_
 refine ⟨.inr rfl, a_ret [] (by rw [results40]) ?_ ?_ ?_⟩ <;> simp [-List.map_set, -List.map_replicate, -List.reduceReplicate, -List.map_map, -List.map_drop, -List.map_take, num, bol, txt, w8, w16, w32, w64, lst, cls, rowO, boxO, List.take_of_length_le, Wr.cellsL_len, wA, Wr.k_mk, Wr.n_mk, Wr.s_mk, Wr.l_mk, Wr.cellsL, Wr.z_eq, PutW_t h]

theorem PutR_f (Γ : Gl) (w : Wr) (hw : w.sz ≤ 1000000) (h : mayW 6 w = false) : Go.Ot.Good Γ prog 40 [wA w] [] (.t (txt (PutW w))) [] [] := by
 refine a_body F.mix func40 (by rfl) ntmps40 ?_
 refine k_seq ?_
 refine k_region rfl ?_
 refine a_op ?_
 refine a_op ?_
 refine s_nil (r_false ?_)
 refine q_next ?_
 refine k_seq ?_
 refine k_seq ?_
 refine k_region rfl ?_
 refine a_op ?_
 refine a_call [] false (by have := MayR_good Γ w hw; rw [h] at this; exact this) ?_
 refine a_op ?_
 refine s_nil (r_false ?_)
 refine q_next ?_
 refine a_true ?_
 refine k_seq ?_
 refine k_region rfl ?_
 refine a_op ?_
 refine s_nil (r_false ?_)
 refine q_next ?_
 refine k_ret ?_
 refine q_seq_ret ?_
 refine ⟨.inr rfl, a_ret [] (by rw [results40]) ?_ ?_ ?_⟩ <;> simp [-List.map_set, -List.map_replicate, -List.reduceReplicate, -List.map_map, -List.map_drop, -List.map_take, num, bol, txt, w8, w16, w32, w64, lst, cls, rowO, boxO, List.take_of_length_le, Wr.cellsL_len, wA, Wr.k_mk, Wr.n_mk, Wr.s_mk, Wr.l_mk, Wr.cellsL, Wr.z_eq, PutW_f h]

theorem PutR_good (Γ : Gl) (w : Wr) (hw : w.sz ≤ 1000000) (hl : mayW 6 w = true → (putW 6 w).length ≤ 100000000) : Go.Ot.Good Γ prog 40 [wA w] [] (.t (txt (PutW w))) [] [] := by
 cases h : mayW 6 w with
 | true => exact PutR_t Γ w hw h (hl h)
 | false => exact PutR_f Γ w hw h
end Go.Proofs.Tryz
