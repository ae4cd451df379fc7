/- Contracts of this program's functions. -/
import Derived.Test.YtppicdhlpdhoiaaDoorSSL3
import Derived.Test.YtppicdhlpdhoiaaDoorSSL2
import Derived.Test.YtppicdhlpdhoiaaDoorSVAs
set_option maxHeartbeats 4000000
set_option maxRecDepth 100000
set_option linter.unusedVariables false
set_option linter.unusedSimpArgs false
namespace Go.Proofs.Tryd
open Go Go.Ot

def WT : T := .ifc 68 (txt [110, 111, 32, 108, 105, 115, 116, 32, 111, 102, 32, 115, 111, 32, 109, 97, 110, 121])
@[push_cast] theorem WT_eq : WT = .ifc 68 (txt [110, 111, 32, 108, 105, 115, 116, 32, 111, 102, 32, 115, 111, 32, 109, 97, 110, 121]) := rfl
def PT (q : List UInt8) : T := .ifc 95 (.agg [txt q, .ifc 68 (txt [110, 111, 32, 108, 105, 115, 116, 32, 111, 102, 32, 115, 111, 32, 109, 97, 110, 121])])
@[push_cast] theorem PT_eq (q : List UInt8) : PT q = .ifc 95 (.agg [txt q, .ifc 68 (txt [110, 111, 32, 108, 105, 115, 116, 32, 111, 102, 32, 115, 111, 32, 109, 97, 110, 121])]) := rfl
theorem PT_plain (q : List UInt8) : (PT q).plain = some (Sn.wv (.string (S [110, 111, 32, 108, 105, 115, 116, 32, 111, 102, 32, 115, 111, 32, 109, 97, 110, 121])) [q]) := by simp [PT, T.plain, T.plains, txt, Sn.wv, Sn.wvT, Sn.wvV]
/-- Is a list of lists, of so many each? -/
def okN (n : Nat) (l : List Wr) : Bool := l.all fun x => decide (x.k = 3 ∧ x.l.length = n)
theorem okN_yes {n : Nat} {l : List Wr} (h : ∀ i, i < l.length → (l.getD i default).k = 3 ∧ (l.getD i default).l.length = n) : okN n l = true := by
 rw [okN, List.all_eq_true]; intro x hx
 obtain ⟨i, hi, rfl⟩ := List.mem_iff_getElem.1 hx
 have := h i hi
 rw [getD_eq hi] at this
 exact decide_eq_true this
theorem okN_no {n : Nat} {l : List Wr} {i : Nat} (hi : i < l.length) (h : ¬ ((l.getD i default).k = 3 ∧ (l.getD i default).l.length = n)) : okN n l = false := by
 rw [okN, List.all_eq_false]
 rw [getD_eq hi] at h
 exact ⟨_, List.getElem_mem hi, by simpa using h⟩
theorem okN_ex {n : Nat} {l : List Wr} (h : okN n l = false) : ∃ i, i < l.length ∧ ¬ ((l.getD i default).k = 3 ∧ (l.getD i default).l.length = n) := by
 rw [okN, List.all_eq_false] at h
 obtain ⟨x, hx, h⟩ := h
 obtain ⟨i, hi, rfl⟩ := List.mem_iff_getElem.1 hx
 exact ⟨i, hi, by rw [getD_eq hi]; simpa using h⟩
theorem three_of {l : List Wr} (h : l.length = 3) : ∃ a b c, l = [a, b, c] := by
 match l, h with
 | [a, b, c], _ => exact ⟨a, b, c, rfl⟩
theorem six_of {l : List Wr} (h : l.length = 6) : ∃ a b c d f g, l = [a, b, c, d, f, g] := by
 match l, h with
 | [a, b, c, d, f, g], _ => exact ⟨a, b, c, d, f, g, rfl⟩
theorem two_of {l : List Wr} (h : l.length = 2) : ∃ a b, l = [a, b] := by
 match l, h with
 | [a, b], _ => exact ⟨a, b, rfl⟩
theorem rnOf_3 {x a b c : Wr} (h : x.l = [a, b, c]) : rnOf x = ⟨a.n, b.n, c.n⟩ := by simp [rnOf, h]
theorem ftOf_6 {x a b c d f g : Wr} (h : x.l = [a, b, c, d, f, g]) : ftOf x = ⟨a.n, b.n, c.s, d.n, f.s, g.n⟩ := by simp [ftOf, h]
theorem stOf_2 {x a b : Wr} (h : x.l = [a, b]) : stOf x = ⟨a.l.map rnOf, b.l.map ftOf⟩ := by simp [stOf, h]
@[push_cast, simp] theorem mapRn_len (l : List Wr) : (l.map rnOf).length = l.length := List.length_map _
@[push_cast, simp] theorem mapFt_len (l : List Wr) : (l.map ftOf).length = l.length := List.length_map _
attribute [local irreducible] wpK wpS seqK blockK loopF regK meetK OpSpec Le rdS lpW rdW got mayS mayW putS putW nb u64 PutW stF saB
theorem lists_ok (Γ : Gl) (w : Wr) (n : Int) (hk : w.k = 3) (hn : (w.l.length : Int) = n) : Go.Ot.Good Γ prog 43 [wA w, .t (num n)] [] (.tup [wS w.l, .t (.v .nilIface)]) [] [] := by
 refine a_body F.mix func43 (by rfl) ntmps43 ?_
 refine k_seq ?_
 refine k_region rfl ?_
 iterate 3 refine a_op ?_
 refine s_nil (r_false ?_)
 refine q_next ?_
 refine k_seq ?_
 refine k_seq ?_
 refine k_region rfl ?_
 iterate 4 refine a_op ?_
 refine a_go ?_
 refine a_go ?_
 refine a_go ?_
 refine a_go ?_
 refine a_go ?_
 refine a_op ?_
 refine s_nil (r_false ?_)
 refine q_next ?_
 refine a_false ?_
 refine k_skip ?_
 refine q_next ?_
 refine k_seq ?_
 refine k_region rfl ?_
 iterate 4 refine a_op ?_
 refine s_nil (r_false ?_)
 refine q_next ?_
 refine k_ret ?_
 refine ⟨.inr rfl, a_ret [] (by rw [results43]) ?_ ?_ ?_⟩ <;> simp [-List.map_set, -List.map_replicate, -List.reduceReplicate, -List.map_map, -List.map_drop, -List.map_take, num, bol, txt, w8, w16, w32, w64, lst, cls, rowO, boxO, List.take_of_length_le, Wr.cellsL_len, wA, Wr.k_mk, Wr.n_mk, Wr.s_mk, Wr.l_mk, Wr.cellsL, Wr.z_eq, wS]

theorem lists_no (Γ : Gl) (w : Wr) (n : Int) (h : ¬ (w.k = 3 ∧ (w.l.length : Int) = n)) : Go.Ot.Good Γ prog 43 [wA w, .t (num n)] [] (.tup [.t (.v (.slice none 0 0)), .t WT]) [] [] := by
 refine a_body F.mix func43 (by rfl) ntmps43 ?_
 refine k_seq ?_
 refine k_region rfl ?_
 iterate 3 refine a_op ?_
 refine s_nil (r_false ?_)
 refine q_next ?_
 refine k_seq ?_
 refine k_seq ?_
 refine k_region rfl ?_
 rcases (show w.k ≠ 3 ∨ (w.k = 3 ∧ (w.l.length : Int) ≠ n) by omega) with g | ⟨g, g2⟩
 ·skip
  iterate 4 refine a_op ?_
  refine a_no ?_
  refine a_no ?_
  refine a_no ?_
  refine a_no ?_
  refine a_no ?_
  refine a_op ?_
  refine s_nil (r_false ?_)
  refine q_next ?_
  refine a_true ?_
  refine k_seq ?_
  refine k_region rfl ?_
  iterate 3 refine a_op ?_
  refine s_nil (r_false ?_)
  refine q_next ?_
  refine k_ret ?_
  refine q_seq_ret ?_
  refine ⟨.inr rfl, a_ret [] (by rw [results43]) ?_ ?_ ?_⟩ <;> simp [-List.map_set, -List.map_replicate, -List.reduceReplicate, -List.map_map, -List.map_drop, -List.map_take, num, bol, txt, w8, w16, w32, w64, lst, cls, rowO, boxO, List.take_of_length_le, Wr.cellsL_len, wA, Wr.k_mk, Wr.n_mk, Wr.s_mk, Wr.l_mk, Wr.cellsL, Wr.z_eq, wS, WT_eq]
 ·skip
  iterate 4 refine a_op ?_
  refine a_go ?_
  refine a_go ?_
  refine a_go ?_
  refine a_go ?_
  refine a_go ?_
  refine a_op ?_
  refine s_nil (r_false ?_)
  refine q_next ?_
  refine a_true ?_
  refine k_seq ?_
  refine k_region rfl ?_
  iterate 3 refine a_op ?_
  refine s_nil (r_false ?_)
  refine q_next ?_
  refine k_ret ?_
  refine q_seq_ret ?_
  refine ⟨.inr rfl, a_ret [] (by rw [results43]) ?_ ?_ ?_⟩ <;> simp [-List.map_set, -List.map_replicate, -List.reduceReplicate, -List.map_map, -List.map_drop, -List.map_take, num, bol, txt, w8, w16, w32, w64, lst, cls, rowO, boxO, List.take_of_length_le, Wr.cellsL_len, wA, Wr.k_mk, Wr.n_mk, Wr.s_mk, Wr.l_mk, Wr.cellsL, Wr.z_eq, wS, WT_eq]

theorem sseen_good (Γ : Gl) (l : List Wr) (hl : l.length ≤ 100000) : Go.Ot.Good Γ prog 44 [wS l] [] ((match okN 3 l with | true => .tup [.t (.sl (l.map rnOf).length ((l.map rnOf).flatMap rnT)), .t (.v .nilIface)] | false => .tup [.t (.v (.slice none 0 0)), .t (PT [114, 117, 110])])) [] [] := by
 refine a_body F.mix func44 (by rfl) ntmps44 ?_
 refine k_seq ?_
 refine k_region rfl ?_
 refine a_op ?_
 refine a_op ?_
 refine s_nil (r_false ?_)
 refine q_next ?_
 refine k_seq ?_
 refine k_region rfl ?_
 refine a_op ?_
 refine s_nil (r_false ?_)
 refine q_next ?_
 refine k_seq ?_
 refine k_seq ?_
 refine k_region rfl ?_
 iterate 3 refine a_op ?_
 refine s_nil (r_false ?_)
 refine q_next ?_
 refine k_block ?_
 refine k_loopF (fun sl L (i : Nat) => ⟨setAll (setBad sl [0, 2, 3, 6, 7, 8, 12, 13, 14, 15, 16, 17, 18, 19, 20, 21, 22, 23, 24, 25, 26, 27, 28, 29, 30, 31, 32, 33, 34, 35, 36, 37, 38, 39, 40, 41]) [(4, .msl (.n 9) 0 i 3), (11, .t (num i))], Go.Ot.look (putL (.n 9) (rowRn ((l.take i).map rnOf)) L)⟩) (fun i => i ≤ l.length ∧ ∀ j, j < i → (l.getD j default).k = 3 ∧ (l.getD j default).l.length = 3) (fun i => l.length - i) (0) (a_le ?_) ?_ ?_
 ·refine le_of [] ?_ ?_ ?_ <;> simp [-List.map_set, -List.map_replicate, -List.reduceReplicate, -List.map_map, -List.map_drop, -List.map_take, num, bol, txt, w8, w16, w32, w64, lst, cls, rowO, boxO, List.take_of_length_le, Wr.cellsL_len, wA, Wr.k_mk, Wr.n_mk, Wr.s_mk, Wr.l_mk, Wr.cellsL, Wr.z_eq, rnT, ftT, wS, WT_eq, PT_eq, rowRn]
 ·exact ⟨Nat.zero_le _, fun j hj => by omega⟩
 ·rintro i ⟨hi, hI⟩
  refine a_st ?_
  refine k_seq ?_
  refine k_region rfl ?_
  refine a_op ?_
  refine s_nil (r_false ?_)
  refine q_next ?_
  refine k_seq ?_
  refine a_if (fun hc0 => ?_) (fun hc0 => ?_)
  ·(try simp only [Bool.and_eq_true, Bool.or_eq_true, Bool.or_eq_false_iff, Bool.not_eq_true', Bool.not_eq_false', dec_t, dec_f, Bool.and_eq_false_imp, beq_iff_eq, beq_eq_false_iff_ne, ne_eq] at hc0)
   refine k_skip ?_
   refine q_next ?_
   refine k_seq ?_
   refine k_block ?_
   refine k_seq ?_
   refine k_region rfl ?_
   refine a_op ?_
   refine a_op (hc := by (rw [List.length_drop, Wr.cellsL_len]; omega)) ?_
   obtain ⟨x, hx⟩ : ∃ x, l.getD i default = x := ⟨_, rfl⟩
   simp only [hx]
   refine a_op ?_
   refine a_op ?_
   refine s_nil (r_false ?_)
   refine q_next ?_
   refine k_seq ?_
   refine k_region rfl ?_
   rcases (show (x.k = 3 ∧ (x.l.length : Int) = 3) ∨ ¬ (x.k = 3 ∧ (x.l.length : Int) = 3) by omega) with ⟨g, g2⟩ | g
   ·obtain ⟨a, b, c, hx2⟩ := three_of (show x.l.length = 3 by omega)
    have hok : (l.getD i default).k = 3 ∧ (l.getD i default).l.length = 3 := by rw [hx]; exact ⟨g, by omega⟩
    refine a_op ?_
    refine a_call [] true (lists_ok Γ x 3 g g2) ?_
    iterate 5 refine a_op ?_
    refine s_nil (r_false ?_)
    refine q_next ?_
    refine k_seq ?_
    refine k_seq ?_
    refine k_region rfl ?_
    refine a_op ?_
    refine a_nilnil true ?_
    refine s_nil (r_false ?_)
    refine q_next ?_
    refine a_false ?_
    refine k_skip ?_
    refine q_next ?_
    refine g_start (.n 9) [4, 25] [] rfl ?_
    simp only [hx2]
    refine g_op ?_
    refine g_op ?_
    refine g_op ?_
    refine g_op ?_
    refine g_op ?_
    refine g_op ?_
    refine g_op ?_
    refine g_op ?_
    refine g_op ?_
    refine g_op ?_
    refine g_op ?_
    refine g_op ?_
    refine g_op ?_
    refine g_op ?_
    refine g_op ?_
    refine g_op ?_
    refine g_op ?_
    refine g_nil ⟨g_ok (by kernel_rfl) (by kernel_rfl), ?_⟩
    refine q_block (q_next ?_)
    refine k_region rfl ?_
    refine a_op ?_
    refine a_op ?_
    refine s_nil (r_false ?_)
    have hnx : (l.take (i + 1)).map rnOf = (l.take i).map rnOf ++ [⟨a.n, b.n, c.n⟩] := by rw [map_next (by omega), hx, rnOf_3 hx2]
    refine q_loopF (i + 1) (a_le ?_) ?_ ?_
    ·refine le_of [(.n 9, .n 9)] ?_ ?_ ?_ <;> simp [-List.map_set, -List.map_replicate, -List.reduceReplicate, -List.map_map, -List.map_drop, -List.map_take, num, bol, txt, w8, w16, w32, w64, lst, cls, rowO, boxO, List.take_of_length_le, Wr.cellsL_len, wA, Wr.k_mk, Wr.n_mk, Wr.s_mk, Wr.l_mk, Wr.cellsL, Wr.z_eq, rnT, ftT, wS, WT_eq, PT_eq, rowRn, hnx, List.flatMap_append, List.map_append, rnT]
    ·exact ⟨by omega, fun j hj => by rcases Nat.lt_or_eq_of_le (Nat.le_of_lt_succ hj) with e | e; exact hI j e; (subst e; exact hok)⟩
    ·(first | omega | (simp only []; omega))
   ·have hq : okN 3 l = false := okN_no (i := i) (by omega) (by rw [hx]; omega)
    refine a_op ?_
    refine a_call [] true (lists_no Γ x 3 g) ?_
    iterate 5 refine a_op ?_
    refine s_nil (r_false ?_)
    refine q_next ?_
    refine k_seq ?_
    refine k_seq ?_
    refine k_region rfl ?_
    refine a_op ?_
    refine a_isnil true ?_
    refine s_nil (r_false ?_)
    refine q_next ?_
    refine a_true ?_
    refine k_seq ?_
    refine k_region rfl ?_
    iterate 5 refine a_op ?_
    refine s_nil (r_false ?_)
    refine q_next ?_
    refine k_ret ?_
    refine q_seq_ret (q_block_ret (q_seq_ret (q_loopF_ret (q_block_ret (q_seq_ret ?_)))))
    refine ⟨.inr rfl, a_ret [] (by rw [results44]) ?_ ?_ ?_⟩ <;> simp [-List.map_set, -List.map_replicate, -List.reduceReplicate, -List.map_map, -List.map_drop, -List.map_take, num, bol, txt, w8, w16, w32, w64, lst, cls, rowO, boxO, List.take_of_length_le, Wr.cellsL_len, wA, Wr.k_mk, Wr.n_mk, Wr.s_mk, Wr.l_mk, Wr.cellsL, Wr.z_eq, rnT, ftT, wS, WT_eq, PT_eq, hq, rns_len, fts_len, -List.length_flatMap]
  ·(try simp only [Bool.and_eq_true, Bool.or_eq_true, Bool.or_eq_false_iff, Bool.not_eq_true', Bool.not_eq_false', dec_t, dec_f, Bool.and_eq_false_imp, beq_iff_eq, beq_eq_false_iff_ne, ne_eq] at hc0)
   refine k_exit ?_
   refine q_seq_exit (q_loopF_exit (q_block_exit (q_next ?_)))
   refine k_seq ?_
   refine k_region rfl ?_
   have hil : i = l.length := by omega
   subst hil
   simp only [List.take_length]
   have hq : okN 3 l = true := okN_yes (fun j hj => hI j (by omega))
   have hal := rn_all (l := l.map rnOf) (List.length_map _)
   iterate 3 refine a_op ?_
   refine s_nil (r_false ?_)
   refine q_next ?_
   refine k_ret ?_
   refine ⟨.inr rfl, a_ret [] (by rw [results44]) ?_ ?_ ?_⟩ <;> simp [-List.map_set, -List.map_replicate, -List.reduceReplicate, -List.map_map, -List.map_drop, -List.map_take, num, bol, txt, w8, w16, w32, w64, lst, cls, rowO, boxO, List.take_of_length_le, Wr.cellsL_len, wA, Wr.k_mk, Wr.n_mk, Wr.s_mk, Wr.l_mk, Wr.cellsL, Wr.z_eq, rnT, ftT, wS, WT_eq, PT_eq, hq, rns_len, fts_len, -List.length_flatMap]

theorem sleft_good (Γ : Gl) (l : List Wr) (hl : l.length ≤ 100000) : Go.Ot.Good Γ prog 45 [wS l] [] ((match okN 6 l with | true => .tup [.t (.sl (l.map ftOf).length ((l.map ftOf).flatMap ftT)), .t (.v .nilIface)] | false => .tup [.t (.v (.slice none 0 0)), .t (PT [102, 97, 99, 116])])) [] [] := by
 refine a_body F.mix func45 (by rfl) ntmps45 ?_
 refine k_seq ?_
 refine k_region rfl ?_
 refine a_op ?_
 refine a_op ?_
 refine s_nil (r_false ?_)
 refine q_next ?_
 refine k_seq ?_
 refine k_region rfl ?_
 refine a_op ?_
 refine s_nil (r_false ?_)
 refine q_next ?_
 refine k_seq ?_
 refine k_seq ?_
 refine k_region rfl ?_
 iterate 3 refine a_op ?_
 refine s_nil (r_false ?_)
 refine q_next ?_
 refine k_block ?_
 refine k_loopF (fun sl L (i : Nat) => ⟨setAll (setBad sl [0, 2, 3, 6, 7, 8, 12, 13, 14, 15, 16, 17, 18, 19, 20, 21, 22, 23, 24, 25, 26, 27, 28, 29, 30, 31, 32, 33, 34, 35, 36, 37, 38, 39, 40, 41, 42, 43, 44, 45, 46, 47, 48, 49, 50, 51, 52, 53, 54]) [(4, .msl (.n 9) 0 i 6), (11, .t (num i))], Go.Ot.look (putL (.n 9) (rowFt ((l.take i).map ftOf)) L)⟩) (fun i => i ≤ l.length ∧ ∀ j, j < i → (l.getD j default).k = 3 ∧ (l.getD j default).l.length = 6) (fun i => l.length - i) (0) (a_le ?_) ?_ ?_
 ·refine le_of [] ?_ ?_ ?_ <;> simp [-List.map_set, -List.map_replicate, -List.reduceReplicate, -List.map_map, -List.map_drop, -List.map_take, num, bol, txt, w8, w16, w32, w64, lst, cls, rowO, boxO, List.take_of_length_le, Wr.cellsL_len, wA, Wr.k_mk, Wr.n_mk, Wr.s_mk, Wr.l_mk, Wr.cellsL, Wr.z_eq, rnT, ftT, wS, WT_eq, PT_eq, rowFt]
 ·exact ⟨Nat.zero_le _, fun j hj => by omega⟩
 ·rintro i ⟨hi, hI⟩
  refine a_st ?_
  refine k_seq ?_
  refine k_region rfl ?_
  refine a_op ?_
  refine s_nil (r_false ?_)
  refine q_next ?_
  refine k_seq ?_
  refine a_if (fun hc0 => ?_) (fun hc0 => ?_)
  ·(try simp only [Bool.and_eq_true, Bool.or_eq_true, Bool.or_eq_false_iff, Bool.not_eq_true', Bool.not_eq_false', dec_t, dec_f, Bool.and_eq_false_imp, beq_iff_eq, beq_eq_false_iff_ne, ne_eq] at hc0)
   refine k_skip ?_
   refine q_next ?_
   refine k_seq ?_
   refine k_block ?_
   refine k_seq ?_
   refine k_region rfl ?_
   refine a_op ?_
   refine a_op (hc := by (rw [List.length_drop, Wr.cellsL_len]; omega)) ?_
   obtain ⟨x, hx⟩ : ∃ x, l.getD i default = x := ⟨_, rfl⟩
   simp only [hx]
   refine a_op ?_
   refine a_op ?_
   refine s_nil (r_false ?_)
   refine q_next ?_
   refine k_seq ?_
   refine k_region rfl ?_
   rcases (show (x.k = 3 ∧ (x.l.length : Int) = 6) ∨ ¬ (x.k = 3 ∧ (x.l.length : Int) = 6) by omega) with ⟨g, g2⟩ | g
   ·obtain ⟨a, b, c, d, f, g9, hx2⟩ := six_of (show x.l.length = 6 by omega)
    have hok : (l.getD i default).k = 3 ∧ (l.getD i default).l.length = 6 := by rw [hx]; exact ⟨g, by omega⟩
    refine a_op ?_
    refine a_call [] true (lists_ok Γ x 6 g g2) ?_
    iterate 5 refine a_op ?_
    refine s_nil (r_false ?_)
    refine q_next ?_
    refine k_seq ?_
    refine k_seq ?_
    refine k_region rfl ?_
    refine a_op ?_
    refine a_nilnil true ?_
    refine s_nil (r_false ?_)
    refine q_next ?_
    refine a_false ?_
    refine k_skip ?_
    refine q_next ?_
    refine g_start (.n 9) [4, 25] [] rfl ?_
    simp only [hx2]
    refine g_op ?_
    refine g_op ?_
    refine g_op ?_
    refine g_op ?_
    refine g_op ?_
    refine g_op ?_
    refine g_op ?_
    refine g_op ?_
    refine g_op ?_
    refine g_op ?_
    refine g_op ?_
    refine g_op ?_
    refine g_op ?_
    refine g_op ?_
    refine g_op ?_
    refine g_op ?_
    refine g_op ?_
    refine g_op ?_
    refine g_op ?_
    refine g_op ?_
    refine g_op ?_
    refine g_op ?_
    refine g_op ?_
    refine g_op ?_
    refine g_op ?_
    refine g_op ?_
    refine g_op ?_
    refine g_op ?_
    refine g_op ?_
    refine g_op ?_
    refine g_nil ⟨g_ok (by kernel_rfl) (by kernel_rfl), ?_⟩
    refine q_block (q_next ?_)
    refine k_region rfl ?_
    refine a_op ?_
    refine a_op ?_
    refine s_nil (r_false ?_)
    have hnx : (l.take (i + 1)).map ftOf = (l.take i).map ftOf ++ [⟨a.n, b.n, c.s, d.n, f.s, g9.n⟩] := by rw [map_next (by omega), hx, ftOf_6 hx2]
    refine q_loopF (i + 1) (a_le ?_) ?_ ?_
    ·refine le_of [(.n 9, .n 9)] ?_ ?_ ?_ <;> simp [-List.map_set, -List.map_replicate, -List.reduceReplicate, -List.map_map, -List.map_drop, -List.map_take, num, bol, txt, w8, w16, w32, w64, lst, cls, rowO, boxO, List.take_of_length_le, Wr.cellsL_len, wA, Wr.k_mk, Wr.n_mk, Wr.s_mk, Wr.l_mk, Wr.cellsL, Wr.z_eq, rnT, ftT, wS, WT_eq, PT_eq, rowFt, hnx, List.flatMap_append, List.map_append, ftT]
    ·exact ⟨by omega, fun j hj => by rcases Nat.lt_or_eq_of_le (Nat.le_of_lt_succ hj) with e | e; exact hI j e; (subst e; exact hok)⟩
    ·(first | omega | (simp only []; omega))
   ·have hq : okN 6 l = false := okN_no (i := i) (by omega) (by rw [hx]; omega)
    refine a_op ?_
    refine a_call [] true (lists_no Γ x 6 g) ?_
    iterate 5 refine a_op ?_
    refine s_nil (r_false ?_)
    refine q_next ?_
    refine k_seq ?_
    refine k_seq ?_
    refine k_region rfl ?_
    refine a_op ?_
    refine a_isnil true ?_
    refine s_nil (r_false ?_)
    refine q_next ?_
    refine a_true ?_
    refine k_seq ?_
    refine k_region rfl ?_
    iterate 5 refine a_op ?_
    refine s_nil (r_false ?_)
    refine q_next ?_
    refine k_ret ?_
    refine q_seq_ret (q_block_ret (q_seq_ret (q_loopF_ret (q_block_ret (q_seq_ret ?_)))))
    refine ⟨.inr rfl, a_ret [] (by rw [results45]) ?_ ?_ ?_⟩ <;> simp [-List.map_set, -List.map_replicate, -List.reduceReplicate, -List.map_map, -List.map_drop, -List.map_take, num, bol, txt, w8, w16, w32, w64, lst, cls, rowO, boxO, List.take_of_length_le, Wr.cellsL_len, wA, Wr.k_mk, Wr.n_mk, Wr.s_mk, Wr.l_mk, Wr.cellsL, Wr.z_eq, rnT, ftT, wS, WT_eq, PT_eq, hq, rns_len, fts_len, -List.length_flatMap]
  ·(try simp only [Bool.and_eq_true, Bool.or_eq_true, Bool.or_eq_false_iff, Bool.not_eq_true', Bool.not_eq_false', dec_t, dec_f, Bool.and_eq_false_imp, beq_iff_eq, beq_eq_false_iff_ne, ne_eq] at hc0)
   refine k_exit ?_
   refine q_seq_exit (q_loopF_exit (q_block_exit (q_next ?_)))
   refine k_seq ?_
   refine k_region rfl ?_
   have hil : i = l.length := by omega
   subst hil
   simp only [List.take_length]
   have hq : okN 6 l = true := okN_yes (fun j hj => hI j (by omega))
   have hal := ft_all (l := l.map ftOf) (List.length_map _)
   iterate 3 refine a_op ?_
   refine s_nil (r_false ?_)
   refine q_next ?_
   refine k_ret ?_
   refine ⟨.inr rfl, a_ret [] (by rw [results45]) ?_ ?_ ?_⟩ <;> simp [-List.map_set, -List.map_replicate, -List.reduceReplicate, -List.map_map, -List.map_drop, -List.map_take, num, bol, txt, w8, w16, w32, w64, lst, cls, rowO, boxO, List.take_of_length_le, Wr.cellsL_len, wA, Wr.k_mk, Wr.n_mk, Wr.s_mk, Wr.l_mk, Wr.cellsL, Wr.z_eq, rnT, ftT, wS, WT_eq, PT_eq, hq, rns_len, fts_len, -List.length_flatMap]

end Go.Proofs.Tryd
