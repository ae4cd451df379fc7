/- Contracts of this program's functions. -/
import Derived.Test.YtemehffhagfpbaaGreatDoorSMF1
import Derived.Test.YtemehffhagfpbaaGreatDoorSMF2
import Derived.Test.YtemehffhagfpbaaGreatDoorSMG0
set_option maxHeartbeats 4000000
set_option maxRecDepth 100000
set_option linter.unusedVariables false
set_option linter.unusedSimpArgs false
namespace Go.Proofs.Tryz
open Go Go.Ot

theorem VwL_app {src : Nm → Option Nm} {hp : Nm → Option Ob} {len : Nm → Prop} {xs ys : List D} : ∀ ts : List T, VwL src hp len (ts.map .t ++ xs) (ts.map .t ++ ys) ↔ VwL src hp len xs ys
 | [] => Iff.rfl
 | a :: ts => by
  have ih := VwL_app (src := src) (hp := hp) (len := len) (xs := xs) (ys := ys) ts
  constructor
  ·rintro ⟨d, ds, h, h1, h2⟩
   obtain ⟨rfl, rfl⟩ := List.cons.inj h
   exact ih.1 h2
  ·intro h
   exact ⟨_, _, rfl, VwT_refl hp len a, ih.2 h⟩
def rowRc (l : List Rc) : Ob := ⟨(l.flatMap rcT).map .t, 26, true, true⟩
@[push_cast] theorem rowRc_eq (l : List Rc) : rowRc l = ⟨(l.flatMap rcT).map .t, 26, true, true⟩ := rfl
@[push_cast] theorem rcs_at {l : List Rc} {i : Nat} (h : i < l.length) : List.take 6 (List.drop (i * 6) ((l.flatMap rcT).map D.t)) = [.t (num (l.getD i default).seq), .t (txt (l.getD i default).prev), .t (num (l.getD i default).kind), .t (num (l.getD i default).dev), .t (.sl (l.getD i default).wraps.length ((l.getD i default).wraps.flatMap wpT)), .t (txt (l.getD i default).tag)] := by
 rw [← List.map_drop, ← List.map_take, rows_at rcT_len h]
 rfl
@[push_cast] theorem rcs_g0 {l : List Rc} {i : Nat} (h : i < l.length) : ((l.flatMap rcT).map D.t).getD (i * 6) .bad = .t (num (l.getD i default).seq) := by
 rw [List.getD_eq_getElem?_getD, List.getElem?_map, ← Nat.add_zero (i * 6), ← List.getElem?_drop, rc_drop h]; rfl
@[push_cast] theorem rcs_g2 {l : List Rc} {i : Nat} (h : i < l.length) : ((l.flatMap rcT).map D.t).getD (i * 6 + 2) .bad = .t (num (l.getD i default).kind) := by
 rw [List.getD_eq_getElem?_getD, List.getElem?_map, ← List.getElem?_drop, rc_drop h]; rfl
@[push_cast] theorem rcs_g3 {l : List Rc} {i : Nat} (h : i < l.length) : ((l.flatMap rcT).map D.t).getD (i * 6 + 3) .bad = .t (num (l.getD i default).dev) := by
 rw [List.getD_eq_getElem?_getD, List.getElem?_map, ← List.getElem?_drop, rc_drop h]; rfl
theorem rcs_all {l : List Rc} {n : Nat} (h : l.length = n) : List.take (n * 6) ((l.flatMap rcT).map D.t) = (l.flatMap rcT).map D.t := List.take_of_length_le (by rw [List.length_map, rcs_len, h]; exact Nat.le_refl _)
attribute [local irreducible] wpK wpS seqK blockK loopF regK meetK OpSpec Le rdS lpW rdW got mayS mayW putS putW nb u64 PutW mwB sha rcF hdF hsh RG inF chC fl lkT inR inB ckB chL
theorem chain_good (Γ : Gl) (ns : List UInt8) (hn : ns.length ≤ 9223372036854775807) : Go.Ot.Good Γ prog 9 [.t (lst w8 ns)] [] (.t (.sl (chE ns).length ((chE ns).flatMap rcT))) [] [] := by
 refine a_body F.mix func9 (by rfl) ntmps9 ?_
 refine k_seq ?_
 refine k_region rfl ?_
 refine a_op ?_
 refine s_nil (r_false ?_)
 refine q_next ?_
 refine k_seq ?_
 refine k_region rfl ?_
 iterate 3 refine a_op ?_
 refine s_nil (r_false ?_)
 refine q_next ?_
 refine k_seq ?_
 refine k_seq ?_
 refine k_region rfl ?_
 refine a_op ?_
 refine s_nil (r_false ?_)
 refine q_next ?_
 refine k_block ?_
 refine k_loopF (fun sl L (i : Nat) => ⟨setAll (setBad sl [5, 6, 7, 8, 9, 10, 11, 12, 13, 14, 15, 16, 17, 18, 19, 20, 21, 22, 23, 24, 25, 26, 27, 28, 29, 30, 31, 32, 33, 34, 35, 36, 37, 38, 39, 40, 41, 42, 43, 44, 45, 46, 47, 48, 49, 50, 51, 52, 53]) [(3, .msl (.n 9) 0 (i + 1) 6), (4, .t (num i))], Go.Ot.look (putL (.n 9) (rowRc (chL ns i)) (delL (.r 1 1 0) L))⟩) (fun i => i ≤ ns.length ∧ i ≤ 29) (fun i => ns.length - i) (0) (a_le ?_) ?_ ?_
 ·refine le_of [(.n 9, .r 1 1 0)] ?_ ?_ ?_ <;> simp [-List.map_set, -List.map_replicate, -List.reduceReplicate, -List.map_map, -List.map_drop, -List.map_take, num, bol, txt, w8, w16, w32, w64, lst, cls, rowO, boxO, List.take_of_length_le, Wr.cellsL_len, wA, Wr.k_mk, Wr.n_mk, Wr.s_mk, Wr.l_mk, Wr.cellsL, Wr.z_eq, rcT, wpT, rowRc, chL_0]
 ·exact ⟨Nat.zero_le _, Nat.zero_le _⟩
 ·rintro i ⟨hi, hi2⟩
  refine a_st ?_
  refine k_seq ?_
  refine k_seq ?_
  refine k_region rfl ?_
  rcases (show i = ns.length ∨ (i < ns.length ∧ i = 29) ∨ (i < ns.length ∧ i < 29) by omega) with h1 | ⟨h1, h2⟩ | ⟨h1, h2⟩
  ·skip
   iterate 5 refine a_op ?_
   refine a_no ?_
   refine a_no ?_
   refine a_no ?_
   refine a_op ?_
   refine s_nil (r_false ?_)
   refine q_next ?_
   refine a_false ?_
   refine k_exit ?_
   refine q_seq_exit (q_loopF_exit (q_block_exit (q_next ?_)))
   refine k_seq ?_
   refine k_region rfl ?_
   have hq : chE ns = chL ns i := by rw [chE, show min ns.length 29 = i from by omega]
   have hal := rcs_all (chL_len ns i)
   refine a_op ?_
   refine a_op ?_
   refine s_nil (r_false ?_)
   refine q_next ?_
   refine k_ret ?_
   refine ⟨.inr rfl, a_ret [] (by rw [results9]) ?_ ?_ ?_⟩ <;> simp [-List.map_set, -List.map_replicate, -List.reduceReplicate, -List.map_map, -List.map_drop, -List.map_take, num, bol, txt, w8, w16, w32, w64, lst, cls, rowO, boxO, List.take_of_length_le, Wr.cellsL_len, wA, Wr.k_mk, Wr.n_mk, Wr.s_mk, Wr.l_mk, Wr.cellsL, Wr.z_eq, rcT, wpT, hq, chL_len, hal, rcs_len, -List.length_flatMap]
  ·skip
   iterate 5 refine a_op ?_
   refine a_go ?_
   refine a_go ?_
   refine a_go ?_
   refine a_op ?_
   refine s_nil (r_false ?_)
   refine q_next ?_
   refine a_false ?_
   refine k_exit ?_
   refine q_seq_exit (q_loopF_exit (q_block_exit (q_next ?_)))
   refine k_seq ?_
   refine k_region rfl ?_
   have hq : chE ns = chL ns i := by rw [chE, show min ns.length 29 = i from by omega]
   have hal := rcs_all (chL_len ns i)
   refine a_op ?_
   refine a_op ?_
   refine s_nil (r_false ?_)
   refine q_next ?_
   refine k_ret ?_
   refine ⟨.inr rfl, a_ret [] (by rw [results9]) ?_ ?_ ?_⟩ <;> simp [-List.map_set, -List.map_replicate, -List.reduceReplicate, -List.map_map, -List.map_drop, -List.map_take, num, bol, txt, w8, w16, w32, w64, lst, cls, rowO, boxO, List.take_of_length_le, Wr.cellsL_len, wA, Wr.k_mk, Wr.n_mk, Wr.s_mk, Wr.l_mk, Wr.cellsL, Wr.z_eq, rcT, wpT, hq, chL_len, hal, rcs_len, -List.length_flatMap]
  ·skip
   iterate 5 refine a_op ?_
   refine a_go ?_
   refine a_go ?_
   refine a_go ?_
   refine a_op ?_
   refine s_nil (r_false ?_)
   refine q_next ?_
   refine a_true ?_
   refine k_skip ?_
   refine q_next ?_
   refine k_seq ?_
   refine k_block ?_
   refine k_seq ?_
   refine k_region rfl ?_
   iterate 6 refine a_opd ?_
   refine a_opd (hs := by (simp (disch := omega) only [push_cast, reduceCtorEq, show ((i : Int) + 1 - 1) = i from by omega] <;> rfl)) ?_
   refine a_opd ?_
   refine a_opd ?_
   refine a_calld [] false (hashR_good Γ ((chL ns i).getD i default) (nowrap (chL_w ns i) i)) ?_
   iterate 4 refine a_opd ?_
   obtain ⟨b, hb⟩ : ∃ b, ns.getD i 0 = b := ⟨_, rfl⟩
   simp only [hb]
   have hb8 := b.toNat_lt
   obtain ⟨dd, hd, hd1, hd2⟩ : ∃ d : Int, (b.toNat : Int) % 7 = d ∧ 0 ≤ d ∧ d ≤ 6 := ⟨_, rfl, by omega, by omega⟩
   have hd3 : (b.toNat : Int).tmod 7 = dd := by rw [Int.tmod_eq_emod_of_nonneg (by omega)]; exact hd
   refine a_opd ?_
   refine a_opd (hs := by (simp (disch := omega) only [push_cast, reduceCtorEq, hd, hd3] <;> rfl)) ?_
   iterate 4 refine a_opd ?_
   refine s_nil (r_true (by kernel_rfl) ?_)
   refine q_next ?_
   refine k_seq ?_
   refine k_seq ?_
   refine k_region rfl ?_
   rcases hc : (inF (chL ns i) (i + 1)).contains (1 + dd) with _ | _
   ·have hin : inB (chL ns i) ((i : Int) + 1) (1 + dd) = false := by
     have h := inB_eq (log := chL ns i) (i := i + 1) (by rw [chL_len]; exact Nat.le_refl _) (fun j hj => chL_ok ns i (by omega) j (by rw [chL_len]; exact hj)) (d := 1 + dd) (by omega)
     rw [List.take_of_length_le (by rw [chL_len]; exact Nat.le_refl _), hc, show ((i + 1 : Nat) : Int) = (i : Int) + 1 from rfl] at h; exact h
    iterate 5 refine a_op ?_
    refine a_call [.n 9] false ((by have h := In_good Γ (chL ns i) ((i : Int) + 1) (1 + dd) (by rw [chL_len]; omega); rw [hin] at h; exact h)) ?_ (hv := by (simp (disch := first | omega | (simp only [List.length_drop, List.length_take, List.length_map, List.length_append, List.length_cons, List.length_nil, List.length_replicate, List.length_set] <;> omega) | fail) [-List.map_map, -List.map_drop, -List.map_take, VwL_cons, VwL_nil, Vw_bad, Vw_t, Vw_ptr, Vw_msl, Vw_rop, Vw_agg, Vw_tup, Vw_ifc, VwT_refl, VwL_refl_map, Vw_nilmsl, VwT_msl, VwT_agg, VwT_v, VwT_nil, VwTs_cons, VwTs_nil, VwTs_refl, VwTs_app, List.take_of_length_le, srcL, notIn, ObsVw, SrcOk, pOk, Go.Ot.look, resP, resN, ev, evc, mkS, push_cast, List.take_of_length_le, chL_len, rcs_all (chL_len ns i), rcs_len, -List.length_flatMap] <;> (try omega)))
    refine s_nil (r_false ?_)
    refine q_next ?_
    refine a_false ?_
    refine k_skip ?_
    refine q_next ?_
    refine k_seq ?_
    refine k_seq ?_
    refine k_region rfl ?_
    rcases (show ¬ 127 < b.toNat ∨ 127 < b.toNat by omega) with hv | hv
    ·skip
     iterate 4 refine a_op ?_
     simp only [hb]
     refine a_op ?_
     refine s_nil (r_false ?_)
     refine q_next ?_
     refine a_false ?_
     refine k_skip ?_
     refine q_next ?_
     refine k_region rfl ?_
     have hnx : chL ns (i + 1) = chL ns i ++ [⟨(i : Int) + 1 + 1, hsh ((chL ns i).getD i default), 1, 1 + dd, [], []⟩] := by
      rw [chL_s, hb, nx_not hd (by rw [chL_len]; exact hc), chL_len, if_neg hv, Nat.add_sub_cancel, show ((i + 1 : Nat) : Int) = (i : Int) + 1 from rfl]
     iterate 5 refine a_op ?_
     refine s_nil (r_false ?_)
     refine q_block (q_next ?_)
     refine k_region rfl ?_
     iterate 3 refine a_op ?_
     refine s_nil (r_false ?_)
     refine q_loopF (i + 1) (a_le ?_) ?_ ?_
     ·refine le_of [(.n 9, .n 9)] ?_ ?_ ?_ <;> simp [-List.map_set, -List.map_replicate, -List.reduceReplicate, -List.map_map, -List.map_drop, -List.map_take, num, bol, txt, w8, w16, w32, w64, lst, cls, rowO, boxO, List.take_of_length_le, Wr.cellsL_len, wA, Wr.k_mk, Wr.n_mk, Wr.s_mk, Wr.l_mk, Wr.cellsL, Wr.z_eq, rcT, wpT, rowRc, hnx, List.flatMap_append, rcT, List.map_append, VwL_app]
     ·exact ⟨by omega, by omega⟩
     ·(first | omega | (simp only []; omega))
    ·skip
     iterate 4 refine a_op ?_
     simp only [hb]
     refine a_op ?_
     refine s_nil (r_false ?_)
     refine q_next ?_
     refine a_true ?_
     refine k_region rfl ?_
     refine a_op ?_
     refine a_op ?_
     refine s_nil (r_false ?_)
     refine q_next ?_
     refine k_region rfl ?_
     have hnx : chL ns (i + 1) = chL ns i ++ [⟨(i : Int) + 1 + 1, hsh ((chL ns i).getD i default), 1, 1 + dd, [], [48, 49, 50, 51, 52, 53, 54, 55, 56, 57, 97, 98, 99, 100, 101, 102]⟩] := by
      rw [chL_s, hb, nx_not hd (by rw [chL_len]; exact hc), chL_len, if_pos hv, Nat.add_sub_cancel, show ((i + 1 : Nat) : Int) = (i : Int) + 1 from rfl]
     iterate 5 refine a_op ?_
     refine s_nil (r_false ?_)
     refine q_block (q_next ?_)
     refine k_region rfl ?_
     iterate 3 refine a_op ?_
     refine s_nil (r_false ?_)
     refine q_loopF (i + 1) (a_le ?_) ?_ ?_
     ·refine le_of [(.n 9, .n 9)] ?_ ?_ ?_ <;> simp [-List.map_set, -List.map_replicate, -List.reduceReplicate, -List.map_map, -List.map_drop, -List.map_take, num, bol, txt, w8, w16, w32, w64, lst, cls, rowO, boxO, List.take_of_length_le, Wr.cellsL_len, wA, Wr.k_mk, Wr.n_mk, Wr.s_mk, Wr.l_mk, Wr.cellsL, Wr.z_eq, rcT, wpT, rowRc, hnx, List.flatMap_append, rcT, List.map_append, VwL_app]
     ·exact ⟨by omega, by omega⟩
     ·(first | omega | (simp only []; omega))
   ·have hin : inB (chL ns i) ((i : Int) + 1) (1 + dd) = true := by
     have h := inB_eq (log := chL ns i) (i := i + 1) (by rw [chL_len]; exact Nat.le_refl _) (fun j hj => chL_ok ns i (by omega) j (by rw [chL_len]; exact hj)) (d := 1 + dd) (by omega)
     rw [List.take_of_length_le (by rw [chL_len]; exact Nat.le_refl _), hc, show ((i + 1 : Nat) : Int) = (i : Int) + 1 from rfl] at h; exact h
    iterate 5 refine a_op ?_
    refine a_call [.n 9] false ((by have h := In_good Γ (chL ns i) ((i : Int) + 1) (1 + dd) (by rw [chL_len]; omega); rw [hin] at h; exact h)) ?_ (hv := by (simp (disch := first | omega | (simp only [List.length_drop, List.length_take, List.length_map, List.length_append, List.length_cons, List.length_nil, List.length_replicate, List.length_set] <;> omega) | fail) [-List.map_map, -List.map_drop, -List.map_take, VwL_cons, VwL_nil, Vw_bad, Vw_t, Vw_ptr, Vw_msl, Vw_rop, Vw_agg, Vw_tup, Vw_ifc, VwT_refl, VwL_refl_map, Vw_nilmsl, VwT_msl, VwT_agg, VwT_v, VwT_nil, VwTs_cons, VwTs_nil, VwTs_refl, VwTs_app, List.take_of_length_le, srcL, notIn, ObsVw, SrcOk, pOk, Go.Ot.look, resP, resN, ev, evc, mkS, push_cast, List.take_of_length_le, chL_len, rcs_all (chL_len ns i), rcs_len, -List.length_flatMap] <;> (try omega)))
    refine s_nil (r_false ?_)
    refine q_next ?_
    refine a_true ?_
    refine k_region rfl ?_
    refine a_op ?_
    refine a_op ?_
    refine s_nil (r_false ?_)
    refine q_next ?_
    refine k_seq ?_
    refine k_seq ?_
    refine k_region rfl ?_
    rcases (show ¬ 127 < b.toNat ∨ 127 < b.toNat by omega) with hv | hv
    ·skip
     iterate 4 refine a_op ?_
     simp only [hb]
     refine a_op ?_
     refine s_nil (r_false ?_)
     refine q_next ?_
     refine a_false ?_
     refine k_skip ?_
     refine q_next ?_
     refine k_region rfl ?_
     have hnx : chL ns (i + 1) = chL ns i ++ [⟨(i : Int) + 1 + 1, hsh ((chL ns i).getD i default), 2, 1 + dd, [], []⟩] := by
      rw [chL_s, hb, nx_yes hd (by rw [chL_len]; exact hc), chL_len, if_neg hv, Nat.add_sub_cancel, show ((i + 1 : Nat) : Int) = (i : Int) + 1 from rfl]
     iterate 5 refine a_op ?_
     refine s_nil (r_false ?_)
     refine q_block (q_next ?_)
     refine k_region rfl ?_
     iterate 3 refine a_op ?_
     refine s_nil (r_false ?_)
     refine q_loopF (i + 1) (a_le ?_) ?_ ?_
     ·refine le_of [(.n 9, .n 9)] ?_ ?_ ?_ <;> simp [-List.map_set, -List.map_replicate, -List.reduceReplicate, -List.map_map, -List.map_drop, -List.map_take, num, bol, txt, w8, w16, w32, w64, lst, cls, rowO, boxO, List.take_of_length_le, Wr.cellsL_len, wA, Wr.k_mk, Wr.n_mk, Wr.s_mk, Wr.l_mk, Wr.cellsL, Wr.z_eq, rcT, wpT, rowRc, hnx, List.flatMap_append, rcT, List.map_append, VwL_app]
     ·exact ⟨by omega, by omega⟩
     ·(first | omega | (simp only []; omega))
    ·skip
     iterate 4 refine a_op ?_
     simp only [hb]
     refine a_op ?_
     refine s_nil (r_false ?_)
     refine q_next ?_
     refine a_true ?_
     refine k_region rfl ?_
     refine a_op ?_
     refine a_op ?_
     refine s_nil (r_false ?_)
     refine q_next ?_
     refine k_region rfl ?_
     have hnx : chL ns (i + 1) = chL ns i ++ [⟨(i : Int) + 1 + 1, hsh ((chL ns i).getD i default), 2, 1 + dd, [], [48, 49, 50, 51, 52, 53, 54, 55, 56, 57, 97, 98, 99, 100, 101, 102]⟩] := by
      rw [chL_s, hb, nx_yes hd (by rw [chL_len]; exact hc), chL_len, if_pos hv, Nat.add_sub_cancel, show ((i + 1 : Nat) : Int) = (i : Int) + 1 from rfl]
     iterate 5 refine a_op ?_
     refine s_nil (r_false ?_)
     refine q_block (q_next ?_)
     refine k_region rfl ?_
     iterate 3 refine a_op ?_
     refine s_nil (r_false ?_)
     refine q_loopF (i + 1) (a_le ?_) ?_ ?_
     ·refine le_of [(.n 9, .n 9)] ?_ ?_ ?_ <;> simp [-List.map_set, -List.map_replicate, -List.reduceReplicate, -List.map_map, -List.map_drop, -List.map_take, num, bol, txt, w8, w16, w32, w64, lst, cls, rowO, boxO, List.take_of_length_le, Wr.cellsL_len, wA, Wr.k_mk, Wr.n_mk, Wr.s_mk, Wr.l_mk, Wr.cellsL, Wr.z_eq, rcT, wpT, rowRc, hnx, List.flatMap_append, rcT, List.map_append, VwL_app]
     ·exact ⟨by omega, by omega⟩
     ·(first | omega | (simp only []; omega))

end Go.Proofs.Tryz
