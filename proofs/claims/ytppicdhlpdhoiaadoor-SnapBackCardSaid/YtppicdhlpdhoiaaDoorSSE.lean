/- Contracts of this program's functions. -/
import Derived.Test.YtppicdhlpdhoiaaDoorSSM6
set_option maxHeartbeats 4000000
set_option maxRecDepth 100000
set_option linter.unusedVariables false
set_option linter.unusedSimpArgs false
namespace Go.Proofs.Tryd
open Go Go.Ot

def saT (s : Sa) : List T := [.sl s.seen.length (s.seen.flatMap rnT), .sl s.fs.length (s.fs.flatMap ftT)]
theorem saT_len (s : Sa) : (saT s).length = 2 := rfl
@[push_cast] theorem sas_len (l : List Sa) : (l.flatMap saT).length = l.length * 2 := rows_len saT_len l
@[push_cast] theorem sa_drop {l : List Sa} {i : Nat} (h : i < l.length) : (l.flatMap saT).drop (i * 2) = .sl (l.getD i default).seen.length ((l.getD i default).seen.flatMap rnT) :: .sl (l.getD i default).fs.length ((l.getD i default).fs.flatMap ftT) :: (l.flatMap saT).drop (i * 2 + 2) := rows_drop saT_len h
def rowSa (l : List Sa) : Ob := ⟨(l.flatMap saT).map .t, 28, true, true⟩
@[push_cast] theorem rowSa_eq (l : List Sa) : rowSa l = ⟨(l.flatMap saT).map .t, 28, true, true⟩ := rfl
@[push_cast] theorem sa_at {l : List Sa} {i : Nat} (h : i < l.length) : List.take 2 (List.drop (i * 2) ((l.flatMap saT).map D.t)) = [.t (.sl (l.getD i default).seen.length ((l.getD i default).seen.flatMap rnT)), .t (.sl (l.getD i default).fs.length ((l.getD i default).fs.flatMap ftT))] := rAt saT_len h
theorem sa_set {l : List Sa} {i : Nat} {s : Sa} (h : i < l.length) : (((l.flatMap saT).map D.t).set (i * 2) (.t (.sl s.seen.length (s.seen.flatMap rnT)))).set (i * 2 + 1) (.t (.sl s.fs.length (s.fs.flatMap ftT))) = ((l.set i s).flatMap saT).map D.t := by
 have e1 := rSet (f := saT) (k := 2) (j := 0) (r' := ⟨s.seen, (l.getD i default).fs⟩) (c := .sl s.seen.length (s.seen.flatMap rnT)) saT_len h (by decide) rfl
 rw [Nat.add_zero] at e1
 rw [e1]
 have e2 := rSet (f := saT) (k := 2) (l := l.set i ⟨s.seen, (l.getD i default).fs⟩) (i := i) (j := 1) (r' := s) (c := .sl s.fs.length (s.fs.flatMap ftT)) saT_len (by simpa using h) (by decide) (by
  have : (l.set i ⟨s.seen, (l.getD i default).fs⟩).getD i default = ⟨s.seen, (l.getD i default).fs⟩ := by rw [List.getD_eq_getElem?_getD, List.getElem?_set_self h]; rfl
  rw [this]; rfl)
 rw [e2, List.set_set]
theorem sa_all {l : List Sa} {n : Nat} (h : l.length = n) : List.take (n * 2) ((l.flatMap saT).map D.t) = (l.flatMap saT).map D.t := rAll saT_len h
theorem inv_allT {M : Int} {l : List Sa} (h : ∀ t ∈ l, inv M t) (i : Nat) : inv M (allF (l.take i)) := inv_all _ (inv_nil _) fun t ht => h t (List.mem_of_mem_take ht)
theorem allF_0 : allF [] = ⟨[], []⟩ := rfl
theorem apK_s (ns : List UInt8) (k : Nat) : apK ns (k + 1) = apS (apK ns k) (ns.getD (3 * k) 0) (ns.getD (3 * k + 1) 0) (ns.getD (3 * k + 2) 0) := rfl
theorem apK_0 (ns : List UInt8) : apK ns 0 = [⟨[], []⟩, ⟨[], []⟩, ⟨[], []⟩, ⟨[], []⟩] := rfl
theorem apS_j {l : List Sa} {a b c : UInt8} (h : 160 ≤ a.toNat) : apS l a b c = l.set (a.toNat % 4) (joF (l.getD (a.toNat % 4) default) (l.getD (b.toNat % 4) default)) := if_pos h
theorem apS_d {l : List Sa} {a b c : UInt8} {x : Sa × Int} (h : ¬ 160 ≤ a.toNat) (hx : doF (l.getD (a.toNat % 4) default) (a.toNat % 4 : Nat) (opN b c) = x) (h2 : x.2 = 0) : apS l a b c = l.set (a.toNat % 4) (joF (l.getD (a.toNat % 4) default) x.1) := by subst hx; rw [apS, if_neg h, if_pos h2]
theorem apS_n {l : List Sa} {a b c : UInt8} {x : Sa × Int} (h : ¬ 160 ≤ a.toNat) (hx : doF (l.getD (a.toNat % 4) default) (a.toNat % 4 : Nat) (opN b c) = x) (h2 : x.2 ≠ 0) : apS l a b c = l := by subst hx; rw [apS, if_neg h, if_neg h2]
attribute [local irreducible] wpK wpS seqK blockK loopF regK meetK OpSpec Le rdS lpW rdW got mayS mayW putS putW nb u64 PutW
theorem all_good (Γ : Gl) (M : Nat) (hM : M ≤ 1000) (l : List Sa) (hl : l.length ≤ 1000) (hv : ∀ t ∈ l, inv M t) : Go.Ot.Good Γ prog 7 [.t (.sl l.length (l.flatMap saT))] [] (.agg [.t (.sl (allF l).seen.length ((allF l).seen.flatMap rnT)), .t (.sl (allF l).fs.length ((allF l).fs.flatMap ftT))]) [] [] := by
 refine a_body F.mix func7 (by rfl) ntmps7 ?_
 refine k_seq ?_
 refine k_region rfl ?_
 refine a_op ?_
 refine s_nil (r_false ?_)
 refine q_next ?_
 refine k_seq ?_
 refine k_region rfl ?_
 refine a_op ?_
 refine s_nil (r_false ?_)
 refine q_next ?_
 refine k_seq ?_
 refine k_seq ?_
 refine k_region rfl ?_
 refine a_op ?_
 refine s_nil (r_false ?_)
 refine q_next ?_
 refine k_block ?_
 refine k_loopF (fun sl L (i : Nat) => ⟨setAll (setBad sl [5, 6, 7, 8, 9, 10, 11, 12, 13, 14, 15, 16]) [(4, .t (num i))], Go.Ot.look (putL (.r 1 0 0) (boxO 28 [.t (.sl (allF (l.take i)).seen.length ((allF (l.take i)).seen.flatMap rnT)), .t (.sl (allF (l.take i)).fs.length ((allF (l.take i)).fs.flatMap ftT))]) L)⟩) (fun i => i ≤ l.length) (fun i => l.length - i) (0) (a_le ?_) ?_ ?_
 ·refine le_of [(.r 0 0 0, .r 0 0 0), (.r 1 0 0, .r 1 0 0)] ?_ ?_ ?_ <;> simp [-List.map_set, -List.map_replicate, -List.reduceReplicate, -List.map_map, -List.map_drop, -List.map_take, num, bol, txt, w8, w16, w32, w64, lst, cls, rowO, boxO, List.take_of_length_le, Wr.cellsL_len, wA, Wr.k_mk, Wr.n_mk, Wr.s_mk, Wr.l_mk, Wr.cellsL, Wr.z_eq, rnT, ftT, saT, allF_0] <;> (try omega)
 ·(first | omega | simp)
 ·intro i hi
  refine a_st ?_
  refine k_seq ?_
  refine k_seq ?_
  refine k_region rfl ?_
  iterate 4 refine a_op ?_
  refine s_nil (r_false ?_)
  refine q_next ?_
  refine a_if (fun hc0 => ?_) (fun hc0 => ?_)
  ·(try simp only [Bool.and_eq_true, Bool.or_eq_true, Bool.or_eq_false_iff, Bool.not_eq_true', Bool.not_eq_false', dec_t, dec_f, Bool.and_eq_false_imp, beq_iff_eq, beq_eq_false_iff_ne, ne_eq] at hc0)
   refine k_skip ?_
   refine q_next ?_
   refine k_seq ?_
   refine k_block ?_
   refine k_region rfl ?_
   iterate 5 refine a_opd ?_
   have hib : i < l.length := by omega
   obtain ⟨t, ht⟩ : ∃ t, l.getD i default = t := ⟨_, rfl⟩
   simp only [ht]
   have hti := hv t (by rw [← ht, getD_eq hib]; exact List.getElem_mem _)
   have htb := inv_b (by omega) hti
   have hnx := allF_next hib
   rw [ht] at hnx
   obtain ⟨a, ha⟩ : ∃ a, allF (l.take i) = a := ⟨_, rfl⟩
   have hai := inv_allT hv i
   rw [ha] at hnx hai
   have hab := inv_b (by omega) hai
   simp only [ha]
   refine a_calld [] true (join_good Γ a t hab.1 htb.1 hai.1.1 hti.1.1 hab.2 htb.2) ?_
   refine a_opd ?_
   refine s_nil (r_true (by kernel_rfl) ?_)
   refine q_block (q_next ?_)
   refine k_region rfl ?_
   iterate 3 refine a_op ?_
   refine s_nil (r_false ?_)
   refine q_loopF (i + 1) (a_le ?_) ?_ ?_
   ·refine le_of [(.r 0 0 0, .r 0 0 0), (.r 1 0 0, .r 1 0 0)] ?_ ?_ ?_ <;> simp [-List.map_set, -List.map_replicate, -List.reduceReplicate, -List.map_map, -List.map_drop, -List.map_take, num, bol, txt, w8, w16, w32, w64, lst, cls, rowO, boxO, List.take_of_length_le, Wr.cellsL_len, wA, Wr.k_mk, Wr.n_mk, Wr.s_mk, Wr.l_mk, Wr.cellsL, Wr.z_eq, rnT, ftT, saT, hnx] <;> (try omega)
   ·(first | omega | (simp_all <;> omega))
   ·(first | omega | (simp only []; omega))
  ·(try simp only [Bool.and_eq_true, Bool.or_eq_true, Bool.or_eq_false_iff, Bool.not_eq_true', Bool.not_eq_false', dec_t, dec_f, Bool.and_eq_false_imp, beq_iff_eq, beq_eq_false_iff_ne, ne_eq] at hc0)
   refine k_exit ?_
   refine q_seq_exit (q_loopF_exit (q_block_exit (q_next ?_)))
   refine k_seq ?_
   refine k_region rfl ?_
   have hil : i = l.length := by omega
   subst hil
   simp only [List.take_length]
   refine a_op ?_
   refine a_op ?_
   refine s_nil (r_false ?_)
   refine q_next ?_
   refine k_ret ?_
   refine ⟨.inr rfl, a_ret [] (by rw [results7]) ?_ ?_ ?_⟩ <;> simp [-List.map_set, -List.map_replicate, -List.reduceReplicate, -List.map_map, -List.map_drop, -List.map_take, num, bol, txt, w8, w16, w32, w64, lst, cls, rowO, boxO, List.take_of_length_le, Wr.cellsL_len, wA, Wr.k_mk, Wr.n_mk, Wr.s_mk, Wr.l_mk, Wr.cellsL, Wr.z_eq, rnT, ftT, saT]

theorem apart_good (Γ : Gl) (ns : List UInt8) (hn : ns.length ≤ 9223372036854775807) : Go.Ot.Good Γ prog 8 [.t (lst w8 ns)] [] (.t (.sl (apF ns).length ((apF ns).flatMap saT))) [] [] := by
 refine a_body F.mix func8 (by rfl) ntmps8 ?_
 refine k_seq ?_
 refine k_region rfl ?_
 refine a_op ?_
 refine s_nil (r_false ?_)
 refine q_next ?_
 refine k_seq ?_
 refine k_region rfl ?_
 refine a_op ?_
 refine a_op ?_
 refine s_nil (r_false ?_)
 refine q_next ?_
 refine k_seq ?_
 refine k_seq ?_
 refine k_region rfl ?_
 refine a_op ?_
 refine s_nil (r_false ?_)
 refine q_next ?_
 refine k_block ?_
 refine k_loopF (fun sl L (k : Nat) => ⟨setAll (setBad sl [5, 6, 7, 8, 9, 10, 11, 12, 13, 14, 15, 16, 17, 18, 19, 20, 21, 22, 23, 24, 25, 26, 27, 28, 29, 30, 31, 32, 33, 34, 35, 36, 37, 38, 39, 40, 41, 42, 43, 44, 45, 46, 47, 48, 49, 50, 51, 52, 53, 54, 55, 56, 57, 58, 59, 60, 61, 62, 63, 64, 65, 66, 67, 68, 69, 70, 71, 72, 73, 74, 75, 76, 77]) [(3, .msl (.n 9) 0 4 2), (4, .t (num (3 * (k : Int))))], Go.Ot.look (putL (.n 9) (rowSa (apK ns k)) (delL (.r 1 0 0) L))⟩) (fun k => k ≤ min 40 (ns.length / 3)) (fun k => 40 - k) (0) (a_le ?_) ?_ ?_
 ·refine le_of [(.n 9, .r 1 0 0)] ?_ ?_ ?_ <;> simp [-List.map_set, -List.map_replicate, -List.reduceReplicate, -List.map_map, -List.map_drop, -List.map_take, num, bol, txt, w8, w16, w32, w64, lst, cls, rowO, boxO, List.take_of_length_le, Wr.cellsL_len, wA, Wr.k_mk, Wr.n_mk, Wr.s_mk, Wr.l_mk, Wr.cellsL, Wr.z_eq, rnT, ftT, rowSa, apK_0, saT] <;> (try omega)
 ·exact Nat.zero_le _
 ·intro k hk
  have hQ := apK_ok ns k
  obtain ⟨Q, hQ0⟩ : ∃ s, apK ns k = s := ⟨_, rfl⟩
  simp only [hQ0] at hQ ⊢
  have hQl := hQ.1
  refine a_st ?_
  refine k_seq ?_
  refine k_seq ?_
  refine k_region rfl ?_
  rcases (show ns.length ≤ 3 * k + 2 ∨ (3 * k + 2 < ns.length ∧ k = 40) ∨ (3 * k + 2 < ns.length ∧ k < 40) by omega) with g | ⟨g, g2⟩ | ⟨g, g2⟩
  ·skip
   iterate 6 refine a_op ?_
   refine a_no ?_
   refine a_no ?_
   refine a_op ?_
   refine s_nil (r_false ?_)
   refine q_next ?_
   refine a_false ?_
   refine k_exit ?_
   refine q_seq_exit (q_loopF_exit (q_block_exit (q_next ?_)))
   refine k_seq ?_
   refine k_region rfl ?_
   have hq : apF ns = Q := by rw [apF, show min 40 (ns.length / 3) = k from by omega]; exact hQ0
   have hal := sa_all hQ.1
   have hQl := hQ.1
   refine a_op ?_
   refine a_op ?_
   refine s_nil (r_false ?_)
   refine q_next ?_
   refine k_ret ?_
   refine ⟨.inr rfl, a_ret [] (by rw [results8]) ?_ ?_ ?_⟩ <;> simp [-List.map_set, -List.map_replicate, -List.reduceReplicate, -List.map_map, -List.map_drop, -List.map_take, num, bol, txt, w8, w16, w32, w64, lst, cls, rowO, boxO, List.take_of_length_le, Wr.cellsL_len, wA, Wr.k_mk, Wr.n_mk, Wr.s_mk, Wr.l_mk, Wr.cellsL, Wr.z_eq, rnT, ftT, hq, hal, hQl, sas_len, -List.length_flatMap]
  ·skip
   iterate 6 refine a_op ?_
   refine a_go ?_
   refine a_go ?_
   refine a_op ?_
   refine s_nil (r_false ?_)
   refine q_next ?_
   refine a_false ?_
   refine k_exit ?_
   refine q_seq_exit (q_loopF_exit (q_block_exit (q_next ?_)))
   refine k_seq ?_
   refine k_region rfl ?_
   have hq : apF ns = Q := by rw [apF, show min 40 (ns.length / 3) = k from by omega]; exact hQ0
   have hal := sa_all hQ.1
   have hQl := hQ.1
   refine a_op ?_
   refine a_op ?_
   refine s_nil (r_false ?_)
   refine q_next ?_
   refine k_ret ?_
   refine ⟨.inr rfl, a_ret [] (by rw [results8]) ?_ ?_ ?_⟩ <;> simp [-List.map_set, -List.map_replicate, -List.reduceReplicate, -List.map_map, -List.map_drop, -List.map_take, num, bol, txt, w8, w16, w32, w64, lst, cls, rowO, boxO, List.take_of_length_le, Wr.cellsL_len, wA, Wr.k_mk, Wr.n_mk, Wr.s_mk, Wr.l_mk, Wr.cellsL, Wr.z_eq, rnT, ftT, hq, hal, hQl, sas_len, -List.length_flatMap]
  ·skip
   iterate 6 refine a_op ?_
   refine a_go ?_
   refine a_go ?_
   refine a_op ?_
   refine s_nil (r_false ?_)
   refine q_next ?_
   refine a_true ?_
   refine k_skip ?_
   refine q_next ?_
   refine k_seq ?_
   refine k_block ?_
   refine k_seq ?_
   refine k_region rfl ?_
   iterate 4 refine a_op ?_
   obtain ⟨b0, hb0⟩ : ∃ b, ns.getD (3 * k) 0 = b := ⟨_, rfl⟩
   have hb0' : ns.getD (3 * (k : Int)).toNat 0 = b0 := by rw [show (3 * (k : Int)).toNat = 3 * k from by omega]; exact hb0
   have hb08 := b0.toNat_lt
   obtain ⟨b1, hb1⟩ : ∃ b, ns.getD (3 * k + 1) 0 = b := ⟨_, rfl⟩
   have hb1' : ns.getD (3 * (k : Int) + 1).toNat 0 = b1 := by rw [show (3 * (k : Int) + 1).toNat = 3 * k + 1 from by omega]; exact hb1
   have hb18 := b1.toNat_lt
   obtain ⟨b2, hb2⟩ : ∃ b, ns.getD (3 * k + 2) 0 = b := ⟨_, rfl⟩
   have hb2' : ns.getD (3 * (k : Int) + 2).toNat 0 = b2 := by rw [show (3 * (k : Int) + 2).toNat = 3 * k + 2 from by omega]; exact hb2
   have hb28 := b2.toNat_lt
   first | simp only [hb0] | simp only [hb0']
   obtain ⟨dd, hdd, hd4⟩ : ∃ d : Nat, b0.toNat % 4 = d ∧ d < 4 := ⟨_, rfl, by omega⟩
   obtain ⟨ee, hee, he4⟩ : ∃ d : Nat, b1.toNat % 4 = d ∧ d < 4 := ⟨_, rfl, by omega⟩
   have hdt : (b0.toNat : Int).tmod 4 = dd := by rw [Int.tmod_eq_emod_of_nonneg (by omega)]; omega
   have het : (b1.toNat : Int).tmod 4 = ee := by rw [Int.tmod_eq_emod_of_nonneg (by omega)]; omega
   obtain ⟨a, ha⟩ : ∃ s, Q.getD dd default = s := ⟨_, rfl⟩
   have ai := hQ.2 a (by rw [← ha, getD_eq (by omega)]; exact List.getElem_mem _)
   have ab := inv_b (M := k) (by omega) ai
   obtain ⟨c, hc⟩ : ∃ s, Q.getD ee default = s := ⟨_, rfl⟩
   have ci := hQ.2 c (by rw [← hc, getD_eq (by omega)]; exact List.getElem_mem _)
   have cb := inv_b (M := k) (by omega) ci
   obtain ⟨x, hx⟩ : ∃ x, doF a dd (opN b1 b2) = x := ⟨_, rfl⟩
   have hsx := apK_s ns k
   rw [hQ0, hb0, hb1, hb2] at hsx
   refine a_op ?_
   refine a_op (hs := by (simp (disch := first | omega | (simp only [List.length_drop, List.length_take, List.length_map, List.length_append, List.length_cons, List.length_nil, List.length_replicate, List.length_set] <;> omega) | (simp only [push_cast] <;> omega) | fail) only [push_cast, reduceCtorEq, Nat.reduceAdd, Nat.reduceSub, Nat.reduceMul, Nat.reduceEqDiff, Nat.reduceLT, Nat.reduceLeDiff, Nat.reduceMod, Nat.reduceDiv, Int.reduceLE, Int.reduceLT, Int.reduceEq, Int.reduceToNat, Int.reduceAdd, Int.reduceSub, Int.reduceMul, Int.reduceNeg, hdt] <;> rfl)) ?_
   refine a_op ?_
   refine s_nil (r_false ?_)
   refine q_next ?_
   refine k_seq ?_
   refine k_seq ?_
   refine k_region rfl ?_
   iterate 4 refine a_op ?_
   first | simp only [hb0] | simp only [hb0']
   refine a_op ?_
   refine s_nil (r_false ?_)
   refine q_next ?_
   refine a_if (fun hc1 => ?_) (fun hc1 => ?_)
   ·(try simp only [Bool.and_eq_true, Bool.or_eq_true, Bool.or_eq_false_iff, Bool.not_eq_true', Bool.not_eq_false', dec_t, dec_f, Bool.and_eq_false_imp, beq_iff_eq, beq_eq_false_iff_ne, ne_eq] at hc1)
    have hnx := hsx.trans (apS_j (by omega))
    rw [hdd, hee, ha, hc] at hnx
    have hset := sa_set (l := Q) (i := dd) (s := joF a c) (by omega)
    refine k_seq ?_
    refine k_region rfl ?_
    iterate 6 refine a_opd ?_
    simp only [ha]
    iterate 6 refine a_opd ?_
    first | simp only [hb1] | simp only [hb1']
    refine a_opd ?_
    refine a_opd (hs := by (simp (disch := first | omega | (simp only [List.length_drop, List.length_take, List.length_map, List.length_append, List.length_cons, List.length_nil, List.length_replicate, List.length_set] <;> omega) | (simp only [push_cast] <;> omega) | fail) only [push_cast, reduceCtorEq, Nat.reduceAdd, Nat.reduceSub, Nat.reduceMul, Nat.reduceEqDiff, Nat.reduceLT, Nat.reduceLeDiff, Nat.reduceMod, Nat.reduceDiv, Int.reduceLE, Int.reduceLT, Int.reduceEq, Int.reduceToNat, Int.reduceAdd, Int.reduceSub, Int.reduceMul, Int.reduceNeg, het] <;> rfl)) ?_
    refine a_opd ?_
    refine a_opd ?_
    simp only [hc]
    refine a_calld [] true (join_good Γ a c ab.1 cb.1 ai.1.1 ci.1.1 ab.2 cb.2) ?_
    refine a_opd ?_
    refine a_opd ?_
    refine s_nil (r_true (by kernel_rfl) ?_)
    refine q_next ?_
    refine k_exit ?_
    refine q_seq_exit (q_block_exit (q_next ?_))
    refine k_region rfl ?_
    iterate 3 refine a_op ?_
    refine s_nil (r_false ?_)
    refine q_loopF (k + 1) (a_le ?_) ?_ ?_
    ·refine le_of [(.n 9, .n 9)] ?_ ?_ ?_ <;> simp [-List.map_set, -List.map_replicate, -List.reduceReplicate, -List.map_map, -List.map_drop, -List.map_take, num, bol, txt, w8, w16, w32, w64, lst, cls, rowO, boxO, List.take_of_length_le, Wr.cellsL_len, wA, Wr.k_mk, Wr.n_mk, Wr.s_mk, Wr.l_mk, Wr.cellsL, Wr.z_eq, rnT, ftT, rowSa, hnx, hset] <;> (try omega)
    ·(first | omega | (simp_all <;> omega))
    ·(first | omega | (simp only []; omega))
   ·(try simp only [Bool.and_eq_true, Bool.or_eq_true, Bool.or_eq_false_iff, Bool.not_eq_true', Bool.not_eq_false', dec_t, dec_f, Bool.and_eq_false_imp, beq_iff_eq, beq_eq_false_iff_ne, ne_eq] at hc1)
    skip
    refine k_skip ?_
    refine q_next ?_
    refine k_seq ?_
    refine k_region rfl ?_
    iterate 4 refine a_opd ?_
    simp only [ha]
    iterate 6 refine a_opd ?_
    first | simp only [hb1] | simp only [hb1']
    iterate 5 refine a_opd ?_
    first | simp only [hb2] | simp only [hb2']
    refine a_calld [] false (op_good Γ b1 b2) ?_
    refine a_calld [] true (do_good Γ k (by omega) a ai dd (by omega) (by omega) (opN b1 b2) (opN_ok b1 b2)) ?_
    simp only [hx]
    refine a_opd ?_
    refine a_opd ?_
    refine s_nil (r_true (by kernel_rfl) ?_)
    refine q_next ?_
    refine k_seq ?_
    refine k_region rfl ?_
    iterate 3 refine a_op ?_
    refine s_nil (r_false ?_)
    refine q_next ?_
    refine a_if (fun hc2 => ?_) (fun hc2 => ?_)
    ·(try simp only [Bool.and_eq_true, Bool.or_eq_true, Bool.or_eq_false_iff, Bool.not_eq_true', Bool.not_eq_false', dec_t, dec_f, Bool.and_eq_false_imp, beq_iff_eq, beq_eq_false_iff_ne, ne_eq] at hc2)
     have hnx := hsx.trans (apS_d (x := x) (by omega) (by rw [hdd, ha]; exact hx) hc2)
     rw [hdd, ha] at hnx
     have hset := sa_set (l := Q) (i := dd) (s := joF a x.1) (by omega)
     have hxi := inv_do ai (dev := (dd : Int)) (by omega) (by omega) (opN_ok b1 b2) (by rw [hx]; exact hc2)
     rw [hx] at hxi
     have hxb := inv_b (M := k + 1) (by omega) hxi
     refine k_region rfl ?_
     iterate 6 refine a_opd ?_
     simp only [ha]
     refine a_opd ?_
     refine a_opd ?_
     refine a_calld [] true (join_good Γ a x.1 ab.1 hxb.1 ai.1.1 hxi.1.1 ab.2 hxb.2) ?_
     refine a_opd ?_
     refine a_opd ?_
     refine s_nil (r_true (by kernel_rfl) ?_)
     refine q_block (q_next ?_)
     refine k_region rfl ?_
     iterate 3 refine a_op ?_
     refine s_nil (r_false ?_)
     refine q_loopF (k + 1) (a_le ?_) ?_ ?_
     ·refine le_of [(.n 9, .n 9)] ?_ ?_ ?_ <;> simp [-List.map_set, -List.map_replicate, -List.reduceReplicate, -List.map_map, -List.map_drop, -List.map_take, num, bol, txt, w8, w16, w32, w64, lst, cls, rowO, boxO, List.take_of_length_le, Wr.cellsL_len, wA, Wr.k_mk, Wr.n_mk, Wr.s_mk, Wr.l_mk, Wr.cellsL, Wr.z_eq, rnT, ftT, rowSa, hnx, hset] <;> (try omega)
     ·(first | omega | (simp_all <;> omega))
     ·(first | omega | (simp only []; omega))
    ·(try simp only [Bool.and_eq_true, Bool.or_eq_true, Bool.or_eq_false_iff, Bool.not_eq_true', Bool.not_eq_false', dec_t, dec_f, Bool.and_eq_false_imp, beq_iff_eq, beq_eq_false_iff_ne, ne_eq] at hc2)
     have hnx := hsx.trans (apS_n (x := x) (by omega) (by rw [hdd, ha]; exact hx) hc2)
     refine k_skip ?_
     refine q_block (q_next ?_)
     refine k_region rfl ?_
     iterate 3 refine a_op ?_
     refine s_nil (r_false ?_)
     refine q_loopF (k + 1) (a_le ?_) ?_ ?_
     ·refine le_of [(.n 9, .n 9)] ?_ ?_ ?_ <;> simp [-List.map_set, -List.map_replicate, -List.reduceReplicate, -List.map_map, -List.map_drop, -List.map_take, num, bol, txt, w8, w16, w32, w64, lst, cls, rowO, boxO, List.take_of_length_le, Wr.cellsL_len, wA, Wr.k_mk, Wr.n_mk, Wr.s_mk, Wr.l_mk, Wr.cellsL, Wr.z_eq, rnT, ftT, rowSa, hnx] <;> (try omega)
     ·(first | omega | (simp_all <;> omega))
     ·(first | omega | (simp only []; omega))

end Go.Proofs.Tryd
