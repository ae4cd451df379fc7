/- Contracts of this program's functions. -/
import Derived.Test.YtppicdhlpdhoiaaDoorSSA
set_option maxHeartbeats 4000000
set_option maxRecDepth 100000
set_option linter.unusedVariables false
set_option linter.unusedSimpArgs false
namespace Go.Proofs.Tryd
open Go Go.Ot

theorem mem_set' {l : List Ft} {i : Nat} {f : Ft} (h : i < l.length) : f ∈ l.set i f := List.mem_iff_getElem.2 ⟨i, by simpa using h, by simp⟩
theorem set_bad {s : Sa} {i : Nat} {f : Ft} (h : i < s.fs.length) (hf : ¬ (ftP f ∧ hasB s.seen f.dev f.n = true)) : saB ⟨s.seen, s.fs.set i f⟩ = false := by
 rcases e : saB ⟨s.seen, s.fs.set i f⟩ with _ | _
 ·rfl
 ·exact absurd ((saB_q.1 e).fts f (mem_set' h)) hf
theorem run_bad {s : Sa} : saB ⟨⟨9, 1, 1⟩ :: s.seen, s.fs⟩ = false := by
 rcases e : saB ⟨⟨9, 1, 1⟩ :: s.seen, s.fs⟩ with _ | _
 ·rfl
 ·have h := (saB_q.1 e).runs.1 ⟨9, 1, 1⟩ (by simp)
  exact absurd h.2.1 (by decide)
theorem ft_s1 {l : List Ft} {i : Nat} {f : Ft} (h : i < l.length) (he : l.getD i default = f) (x : Int) : ((l.flatMap ftT).map D.t).set (i * 6 + 1) (.t (.v (.int .i64 x))) = ((l.set i ⟨f.dev, x, f.key, f.kind, f.item, f.m⟩).flatMap ftT).map D.t := rSet (j := 1) (c := num x) ftT_len h (by decide) (by rw [he]; rfl)
theorem ft_s2 {l : List Ft} {i : Nat} {f : Ft} (h : i < l.length) (he : l.getD i default = f) (x : List UInt8) : ((l.flatMap ftT).map D.t).set (i * 6 + 2) (.t (.v (.string (S x)))) = ((l.set i ⟨f.dev, f.n, x, f.kind, f.item, f.m⟩).flatMap ftT).map D.t := rSet (j := 2) (c := txt x) ftT_len h (by decide) (by rw [he]; rfl)
theorem ft_s3 {l : List Ft} {i : Nat} {f : Ft} (h : i < l.length) (he : l.getD i default = f) (x : Int) : ((l.flatMap ftT).map D.t).set (i * 6 + 3) (.t (.v (.int .i64 x))) = ((l.set i ⟨f.dev, f.n, f.key, x, f.item, f.m⟩).flatMap ftT).map D.t := rSet (j := 3) (c := num x) ftT_len h (by decide) (by rw [he]; rfl)
theorem vw_run {hp : Nm → Option Ob} {len : Nm → Prop} {l : List Rn} : VwTs hp len (T.v (.int .i64 9) :: T.v (.int .i64 1) :: T.v (.int .i64 1) :: l.flatMap rnT) (List.take ((l.length + 1) * 3) (D.t (T.v (.int .i64 9)) :: D.t (T.v (.int .i64 1)) :: D.t (T.v (.int .i64 1)) :: (l.flatMap rnT).map D.t)) := by
 have e : List.take ((l.length + 1) * 3) (D.t (T.v (.int .i64 9)) :: D.t (T.v (.int .i64 1)) :: D.t (T.v (.int .i64 1)) :: (l.flatMap rnT).map D.t) = (T.v (.int .i64 9) :: T.v (.int .i64 1) :: T.v (.int .i64 1) :: l.flatMap rnT).map D.t := by
  rw [List.take_of_length_le (by rw [List.length_cons, List.length_cons, List.length_cons, List.length_map, rns_len]; omega)]; rfl
 rw [e]; exact VwTs_refl hp len _
@[push_cast] theorem ft_g1 {l : List Ft} {i : Nat} (h : i < l.length) : ((l.flatMap ftT).map D.t).getD (i * 6 + 1) .bad = .t (num (l.getD i default).n) := rG (j := 1) ftT_len h (by decide) rfl
attribute [local irreducible] wpK wpS seqK blockK loopF regK meetK OpSpec Le rdS lpW rdW got mayS mayW putS putW nb u64 PutW stF saB makF
theorem may_law_good (Γ : Gl) (hE : EG Γ) (ns : List UInt8) (wh how : UInt8) (hn : ns.length ≤ 9223372036854775807) : Go.Ot.Good Γ prog 5 [.t (lst w8 ns), .t (w8 wh), .t (w8 how)] [] (.t (bol true)) [] [] := by
 have hb := mak_b ns
 have hq := mak_q ns
 have hiv := inv_makF ns
 obtain ⟨s, hs⟩ : ∃ s, makF ns = s := ⟨_, rfl⟩
 rw [hs] at hb hq hiv
 have hw8 := wh.toNat_lt
 have hh8 := how.toNat_lt
 obtain ⟨H, hH, hH1, hH2⟩ : ∃ H : Int, (how.toNat : Int) % 4 = H ∧ 0 ≤ H ∧ H ≤ 3 := ⟨_, rfl, by omega, by omega⟩
 refine a_body F.mix func5 (by rfl) ntmps5 ?_
 refine k_seq ?_
 refine k_region rfl ?_
 refine a_op ?_
 refine s_nil (r_false ?_)
 refine q_next ?_
 refine k_seq ?_
 refine k_region rfl ?_
 refine a_op ?_
 refine a_call [] true (make_good Γ ns hn) ?_
 simp only [hs]
 refine a_op ?_
 refine a_op ?_
 refine s_nil (r_false ?_)
 refine q_next ?_
 refine k_seq ?_
 refine k_seq ?_
 refine k_region rfl ?_
 iterate 4 refine a_op ?_
 refine s_nil (r_false ?_)
 refine q_next ?_
 refine a_if (fun hc0 => ?_) (fun hc0 => ?_)
 ·(try simp only [Bool.and_eq_true, Bool.or_eq_true, Bool.or_eq_false_iff, Bool.not_eq_true', Bool.not_eq_false', dec_t, dec_f, Bool.and_eq_false_imp, beq_iff_eq, beq_eq_false_iff_ne, ne_eq] at hc0)
  refine k_seq ?_
  refine k_region rfl ?_
  refine a_call [] false (awake_good Γ hE) ?_
  refine a_op ?_
  refine s_nil (r_false ?_)
  refine q_next ?_
  refine k_ret ?_
  refine q_seq_ret ?_
  refine ⟨.inr rfl, a_ret [] (by rw [results5]) ?_ ?_ ?_⟩ <;> simp [-List.map_set, -List.map_replicate, -List.reduceReplicate, -List.map_map, -List.map_drop, -List.map_take, num, bol, txt, w8, w16, w32, w64, lst, cls, rowO, boxO, List.take_of_length_le, Wr.cellsL_len, wA, Wr.k_mk, Wr.n_mk, Wr.s_mk, Wr.l_mk, Wr.cellsL, Wr.z_eq, rnT, ftT, List.length_set]
 ·(try simp only [Bool.and_eq_true, Bool.or_eq_true, Bool.or_eq_false_iff, Bool.not_eq_true', Bool.not_eq_false', dec_t, dec_f, Bool.and_eq_false_imp, beq_iff_eq, beq_eq_false_iff_ne, ne_eq] at hc0)
  refine k_skip ?_
  refine q_next ?_
  refine k_seq ?_
  refine g_start (.r 4 2 0) [21, 24] [] rfl ?_
  have hpos : 0 < s.fs.length := by omega
  obtain ⟨X, hX⟩ : ∃ X, wh.toNat % s.fs.length = X := ⟨_, rfl⟩
  have hlX : X < s.fs.length := by rw [← hX]; exact Nat.mod_lt _ hpos
  have tX := tmod_nat wh.toNat s.fs.length
  have uX := (Int.natCast_emod wh.toNat s.fs.length).symm
  rw [hX] at tX uX
  obtain ⟨e, he⟩ : ∃ e, s.fs.getD X default = e := ⟨_, rfl⟩
  have hen := has_in hiv.1 hiv.2 (hiv.3 e (by rw [← he, getD_eq hlX]; exact List.getElem_mem _)).2
  refine g_op ?_
  refine g_op ?_
  refine g_op ?_
  refine g_op ?_
  refine g_op ?_
  refine g_op ?_
  refine g_op ?_
  refine g_op ?_
  refine g_op ?_
  refine g_nil ⟨l_ok 8 (by kernel_rfl) (by kernel_rfl) (by kernel_rfl), ?_⟩
  refine q_next ?_
  refine k_seq ?_
  refine k_region rfl ?_
  iterate 7 refine a_opd ?_
  refine a_opd (hs := by (simp (disch := first | omega | (simp only [List.length_drop, List.length_take, List.length_map, List.length_append, List.length_cons, List.length_nil, List.length_replicate, List.length_set] <;> omega) | (simp only [push_cast] <;> omega) | fail) only [push_cast, reduceCtorEq, Nat.reduceAdd, Nat.reduceSub, Nat.reduceMul, Nat.reduceEqDiff, Nat.reduceLT, Nat.reduceLeDiff, Nat.reduceMod, Nat.reduceDiv, Int.reduceLE, Int.reduceLT, Int.reduceEq, Int.reduceToNat, Int.reduceAdd, Int.reduceSub, Int.reduceMul, Int.reduceNeg, tX, uX] <;> rfl)) ?_
  refine a_opd ?_
  refine a_opd ?_
  refine s_nil (r_true (by kernel_rfl) ?_)
  refine q_next ?_
  refine k_meetF (fun sl L (t : Sa) => ⟨setAll (setBad sl [0, 1, 2, 7, 9, 12, 13, 14, 15, 16, 17, 18, 19, 20, 21, 22, 23, 24, 25, 26, 27, 28, 29, 30, 31, 32, 33, 34, 35, 36, 37, 38, 39, 40, 41, 42, 43, 44, 45, 46, 47, 48, 49, 50, 51, 52, 53, 54, 55, 56, 57, 58, 59, 60, 61, 62, 63, 64, 65, 66]) [], Go.Ot.look (putL (.r 4 7 0) (boxO 28 [.t (.sl t.seen.length (t.seen.flatMap rnT)), .t (.sl t.fs.length (t.fs.flatMap ftT))]) (delL (.r 4 2 0) L))⟩) (fun t => saB t = false ∧ t.seen.length ≤ 1000 ∧ t.fs.length ≤ 1000) ?_ ?_
  ·skip
   refine k_seq ?_
   refine k_region rfl ?_
   refine a_op ?_
   refine a_op ?_
   refine s_nil (r_false ?_)
   refine q_next ?_
   refine k_block ?_
   refine k_seq ?_
   refine k_region rfl ?_
   rcases (show H = 0 ∨ H = 1 ∨ H = 2 ∨ H = 3 by omega) with rfl | rfl | rfl | rfl
   ·skip
    refine a_op ?_
    refine a_op ?_
    refine s_nil (r_false ?_)
    refine q_next ?_
    refine a_true ?_
    refine k_region rfl ?_
    iterate 4 refine a_op ?_
    refine s_nil (r_false ?_)
    have hset := ft_s3 hlX he 4
    refine q_block (q_meetF (⟨s.seen, s.fs.set X ⟨e.dev, e.n, e.key, 4, e.item, e.m⟩⟩) (a_le ?_) ?_)
    ·refine le_of [(.r 1 2 0, .r 1 2 0), (.r 4 7 0, .r 4 7 0)] ?_ ?_ ?_ <;> simp [-List.map_set, -List.map_replicate, -List.reduceReplicate, -List.map_map, -List.map_drop, -List.map_take, num, bol, txt, w8, w16, w32, w64, lst, cls, rowO, boxO, List.take_of_length_le, Wr.cellsL_len, wA, Wr.k_mk, Wr.n_mk, Wr.s_mk, Wr.l_mk, Wr.cellsL, Wr.z_eq, rnT, ftT, List.length_set, hset, ft_all (l := s.fs.set X _) (List.length_set ..), List.length_set, fts_len, -List.length_flatMap] <;> (try exact ⟨by omega, by omega, vw_run⟩)
    ·exact ⟨set_bad hlX (fun h => by have h2 := h.1.2; rcases h2 with h2 | h2 <;> (have h3 := h2.1; simp at h3)), by show s.seen.length ≤ 1000; omega, by show (s.fs.set X _).length ≤ 1000; rw [List.length_set]; omega⟩
   ·skip
    refine a_op ?_
    refine a_op ?_
    refine s_nil (r_false ?_)
    refine q_next ?_
    refine a_false ?_
    refine k_seq ?_
    refine k_region rfl ?_
    refine a_op ?_
    refine a_op ?_
    refine s_nil (r_false ?_)
    refine q_next ?_
    refine a_true ?_
    refine k_region rfl ?_
    iterate 6 refine a_op ?_
    first | simp only [he] | skip
    iterate 5 refine a_op ?_
    refine s_nil (r_false ?_)
    have hset := ft_s1 hlX he (e.n + 100)
    refine q_block (q_meetF (⟨s.seen, s.fs.set X ⟨e.dev, e.n + 100, e.key, e.kind, e.item, e.m⟩⟩) (a_le ?_) ?_)
    ·refine le_of [(.r 1 2 0, .r 1 2 0), (.r 4 7 0, .r 4 7 0)] ?_ ?_ ?_ <;> simp [-List.map_set, -List.map_replicate, -List.reduceReplicate, -List.map_map, -List.map_drop, -List.map_take, num, bol, txt, w8, w16, w32, w64, lst, cls, rowO, boxO, List.take_of_length_le, Wr.cellsL_len, wA, Wr.k_mk, Wr.n_mk, Wr.s_mk, Wr.l_mk, Wr.cellsL, Wr.z_eq, rnT, ftT, List.length_set, hset, ft_all (l := s.fs.set X _) (List.length_set ..), List.length_set, fts_len, -List.length_flatMap] <;> (try exact ⟨by omega, by omega, vw_run⟩)
    ·exact ⟨set_bad hlX (fun h => by have h3 := has_in hiv.1 hiv.2 h.2; simp only [] at h3; omega), by show s.seen.length ≤ 1000; omega, by show (s.fs.set X _).length ≤ 1000; rw [List.length_set]; omega⟩
   ·skip
    refine a_op ?_
    refine a_op ?_
    refine s_nil (r_false ?_)
    refine q_next ?_
    refine a_false ?_
    refine k_seq ?_
    refine k_region rfl ?_
    refine a_op ?_
    refine a_op ?_
    refine s_nil (r_false ?_)
    refine q_next ?_
    refine a_false ?_
    refine k_seq ?_
    refine k_region rfl ?_
    refine a_op ?_
    refine a_op ?_
    refine s_nil (r_false ?_)
    refine q_next ?_
    refine a_true ?_
    refine k_region rfl ?_
    refine a_op ?_
    refine a_op ?_
    first | refine a_text ?_ | refine a_texts ?_
    iterate 3 refine a_op ?_
    refine s_nil (r_false ?_)
    have hset := ft_s2 hlX he [UInt8.ofInt 0, UInt8.ofInt 0, UInt8.ofInt 0, UInt8.ofInt 0, UInt8.ofInt 0, UInt8.ofInt 0, UInt8.ofInt 0, UInt8.ofInt 0, UInt8.ofInt 0, UInt8.ofInt 0, UInt8.ofInt 0, UInt8.ofInt 0, UInt8.ofInt 0, UInt8.ofInt 0, UInt8.ofInt 0, UInt8.ofInt 0, UInt8.ofInt 0, UInt8.ofInt 0, UInt8.ofInt 0, UInt8.ofInt 0, UInt8.ofInt 0, UInt8.ofInt 0, UInt8.ofInt 0, UInt8.ofInt 0, UInt8.ofInt 0, UInt8.ofInt 0, UInt8.ofInt 0, UInt8.ofInt 0, UInt8.ofInt 0, UInt8.ofInt 0, UInt8.ofInt 0, UInt8.ofInt 0, UInt8.ofInt 0, UInt8.ofInt 0, UInt8.ofInt 0, UInt8.ofInt 0, UInt8.ofInt 0, UInt8.ofInt 0, UInt8.ofInt 0, UInt8.ofInt 0, UInt8.ofInt 0]
    refine q_block (q_meetF (⟨s.seen, s.fs.set X ⟨e.dev, e.n, [UInt8.ofInt 0, UInt8.ofInt 0, UInt8.ofInt 0, UInt8.ofInt 0, UInt8.ofInt 0, UInt8.ofInt 0, UInt8.ofInt 0, UInt8.ofInt 0, UInt8.ofInt 0, UInt8.ofInt 0, UInt8.ofInt 0, UInt8.ofInt 0, UInt8.ofInt 0, UInt8.ofInt 0, UInt8.ofInt 0, UInt8.ofInt 0, UInt8.ofInt 0, UInt8.ofInt 0, UInt8.ofInt 0, UInt8.ofInt 0, UInt8.ofInt 0, UInt8.ofInt 0, UInt8.ofInt 0, UInt8.ofInt 0, UInt8.ofInt 0, UInt8.ofInt 0, UInt8.ofInt 0, UInt8.ofInt 0, UInt8.ofInt 0, UInt8.ofInt 0, UInt8.ofInt 0, UInt8.ofInt 0, UInt8.ofInt 0, UInt8.ofInt 0, UInt8.ofInt 0, UInt8.ofInt 0, UInt8.ofInt 0, UInt8.ofInt 0, UInt8.ofInt 0, UInt8.ofInt 0, UInt8.ofInt 0], e.kind, e.item, e.m⟩⟩) (a_le ?_) ?_)
    ·refine le_of [(.r 1 2 0, .r 1 2 0), (.r 4 7 0, .r 4 7 0)] ?_ ?_ ?_ <;> simp [-List.map_set, -List.map_replicate, -List.reduceReplicate, -List.map_map, -List.map_drop, -List.map_take, num, bol, txt, w8, w16, w32, w64, lst, cls, rowO, boxO, List.take_of_length_le, Wr.cellsL_len, wA, Wr.k_mk, Wr.n_mk, Wr.s_mk, Wr.l_mk, Wr.cellsL, Wr.z_eq, rnT, ftT, List.length_set, hset, ft_all (l := s.fs.set X _) (List.length_set ..), List.length_set, fts_len, -List.length_flatMap] <;> (try exact ⟨by omega, by omega, vw_run⟩)
    ·exact ⟨set_bad hlX (fun h => by have h3 := h.1.1; simp at h3), by show s.seen.length ≤ 1000; omega, by show (s.fs.set X _).length ≤ 1000; rw [List.length_set]; omega⟩
   ·skip
    refine a_op ?_
    refine a_op ?_
    refine s_nil (r_false ?_)
    refine q_next ?_
    refine a_false ?_
    refine k_seq ?_
    refine k_region rfl ?_
    refine a_op ?_
    refine a_op ?_
    refine s_nil (r_false ?_)
    refine q_next ?_
    refine a_false ?_
    refine k_seq ?_
    refine k_region rfl ?_
    refine a_op ?_
    refine a_op ?_
    refine s_nil (r_false ?_)
    refine q_next ?_
    refine a_false ?_
    refine k_region rfl ?_
    iterate 7 refine a_op ?_
    refine s_nil (r_false ?_)
    skip
    refine q_block (q_meetF (⟨⟨9, 1, 1⟩ :: s.seen, s.fs⟩) (a_le ?_) ?_)
    ·refine le_of [(.r 1 2 0, .r 1 2 0), (.r 4 7 0, .r 4 7 0)] ?_ ?_ ?_ <;> simp [-List.map_set, -List.map_replicate, -List.reduceReplicate, -List.map_map, -List.map_drop, -List.map_take, num, bol, txt, w8, w16, w32, w64, lst, cls, rowO, boxO, List.take_of_length_le, Wr.cellsL_len, wA, Wr.k_mk, Wr.n_mk, Wr.s_mk, Wr.l_mk, Wr.cellsL, Wr.z_eq, rnT, ftT, List.length_set, ft_all (l := s.fs) rfl, rnT, fts_len, rns_len, -List.length_flatMap] <;> (try exact ⟨by omega, by omega, vw_run⟩)
    ·exact ⟨run_bad, by show _ + 1 ≤ 1000; omega, by show s.fs.length ≤ 1000; omega⟩
  ·intro t ht0
   obtain ⟨ht, ht1, ht2⟩ := ht0
   refine a_st ?_
   refine k_seq ?_
   refine k_region rfl ?_
   refine a_op ?_
   refine a_call [] false ((by have h := sput_good Γ t (by omega) (by omega); rw [stF_f ht] at h; exact h)) ?_
   refine a_call [] true ((by have h := sget_good Γ hE ([]) (by simp); rw [GS_nil] at h; exact h)) ?_
   iterate 6 refine a_op ?_
   refine s_nil (r_false ?_)
   refine q_next ?_
   refine k_seq ?_
   refine k_region rfl ?_
   refine a_op ?_
   refine a_call [] false ((by have h := sput_good Γ t (by omega) (by omega); rw [stF_f ht] at h; exact h)) ?_
   refine a_op ?_
   refine a_op ?_
   refine a_go ?_
   refine a_go ?_
   refine a_op ?_
   refine a_op ?_
   refine a_go ?_
   refine a_callgo [] false (by have h := sa_mayR Γ t (by omega) (by omega); rw [ht] at h; exact h) ?_
   refine a_go ?_
   refine a_op ?_
   refine a_op ?_
   refine a_callgo [] false (awake_good Γ hE) ?_
   refine a_op ?_
   refine a_op ?_
   refine s_nil (r_false ?_)
   refine q_next ?_
   refine k_ret ?_
   refine ⟨.inr rfl, a_ret [] (by rw [results5]) ?_ ?_ ?_⟩ <;> simp [-List.map_set, -List.map_replicate, -List.reduceReplicate, -List.map_map, -List.map_drop, -List.map_take, num, bol, txt, w8, w16, w32, w64, lst, cls, rowO, boxO, List.take_of_length_le, Wr.cellsL_len, wA, Wr.k_mk, Wr.n_mk, Wr.s_mk, Wr.l_mk, Wr.cellsL, Wr.z_eq, rnT, ftT, List.length_set]

end Go.Proofs.Tryd
