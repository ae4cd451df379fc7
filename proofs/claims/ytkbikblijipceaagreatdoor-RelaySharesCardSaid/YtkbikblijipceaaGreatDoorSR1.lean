/- Contracts of this program's functions. -/
import Derived.Test.YtkbikblijipceaaGreatDoorSAs
import Derived.Test.YtkbikblijipceaaGreatDoorSWQ
set_option maxHeartbeats 4000000
set_option maxRecDepth 100000
set_option linter.unusedVariables false
set_option linter.unusedSimpArgs false
namespace Go.Proofs.Tryz
open Go Go.Ot
attribute [local irreducible] wpK wpS seqK blockK loopF regK meetK OpSpec Le

def chV (s : List UInt8) : List Int → T
 | [] => txt s
 | i :: p => .agg [num i, .ifc (wvT p) (chV s p)]
/-- An error of the reader. -/
def chT (s : List UInt8) (p : List Int) : T := .ifc (wvT p) (chV s p)
def erT : Er → T
 | .ok => .v .nilIface
 | .bad p s => chT s p
@[push_cast] theorem erT_ok : erT .ok = .v .nilIface := rfl
@[push_cast] theorem erT_bad (p : List Int) (s : List UInt8) : erT (.bad p s) = chT s p := rfl
@[push_cast] theorem chT_eq (s : List UInt8) (p : List Int) : chT s p = .ifc (wvT p) (chV s p) := rfl
@[push_cast] theorem chV_nil (s : List UInt8) : chV s [] = txt s := rfl
@[push_cast] theorem chV_cons (s : List UInt8) (i : Int) (p : List Int) : chV s (i :: p) = .agg [num i, .ifc (wvT p) (chV s p)] := rfl
@[push_cast] theorem wvT_nil : wvT [] = 170 := rfl
@[push_cast] theorem wvT_cons (i : Int) (p : List Int) : wvT (i :: p) = 216 := rfl
theorem chV_plain (s : List UInt8) : ∀ p, (chV s p).plain = some (wvV (.string (S s)) p)
 | [] => rfl
 | i :: p => by
  have := chV_plain s p
  simp [chV, T.plain, T.plains, this, num, wvV]
theorem chT_plain (s : List UInt8) (p : List Int) : (chT s p).plain = some (wv (.string (S s)) p) := by simp [chT, T.plain, chV_plain, wv]
def rdD (x : Rd) : D := .tup [wA x.1, .t (erT x.2.1)]

theorem take_ok (Γ : Gl) (r : List UInt8) (n : Nat) (h : n ≤ r.length) (hr : r.length ≤ 1000000) : Go.Ot.Good Γ prog 146 [.ptr (.p 0) 0, .t (num n)] [boxO 167 [.t (txt (r))]] (.tup [.t (txt (r.take n)), .t (.v .nilIface)]) [some (boxO 167 [.t (txt (r.drop n))])] [] := by
 refine a_body F.mix func146 (by rfl) ntmps146 ?_
 refine k_seq ?_
 refine k_region rfl ?_
 refine a_op ?_
 refine a_op ?_
 refine s_nil (r_false ?_)
 refine q_next ?_
 refine k_seq ?_
 refine k_seq ?_
 refine k_region rfl ?_
 iterate 7 refine a_op ?_
 refine s_nil (r_false ?_)
 refine q_next ?_
 refine a_false ?_
 refine k_skip ?_
 refine q_next ?_
 refine k_seq ?_
 refine k_region rfl ?_
 iterate 7 refine a_op ?_
 refine s_nil (r_false ?_)
 refine q_next ?_
 refine k_seq ?_
 refine k_region rfl ?_
 iterate 10 refine a_op ?_
 refine s_nil (r_false ?_)
 refine q_next ?_
 refine k_seq ?_
 refine k_region rfl ?_
 iterate 3 refine a_op ?_
 refine s_nil (r_false ?_)
 refine q_next ?_
 refine k_ret ?_
 refine ⟨.inr rfl, a_ret [(.p 0, .p 0)] (by rw [results146]) ?_ ?_ ?_⟩ <;> simp [-List.map_set, -List.map_replicate, -List.reduceReplicate, -List.map_map, -List.map_drop, -List.map_take, num, bol, txt, w8, w16, w32, w64, lst, cls, rowO, boxO, List.take_of_length_le]

theorem take_cut (Γ : Gl) (r : List UInt8) (n : Nat) (h : r.length < n) (hr : r.length ≤ 1000000) : Go.Ot.Good Γ prog 146 [.ptr (.p 0) 0, .t (num n)] [boxO 167 [.t (txt (r))]] (.tup [.t (txt []), .t (chT CUT [])]) [some (boxO 167 [.t (txt (r))])] [] := by
 refine a_body F.mix func146 (by rfl) ntmps146 ?_
 refine k_seq ?_
 refine k_region rfl ?_
 refine a_op ?_
 refine a_op ?_
 refine s_nil (r_false ?_)
 refine q_next ?_
 refine k_seq ?_
 refine k_seq ?_
 refine k_region rfl ?_
 iterate 7 refine a_op ?_
 refine s_nil (r_false ?_)
 refine q_next ?_
 refine a_true ?_
 refine k_seq ?_
 refine k_region rfl ?_
 iterate 3 refine a_op ?_
 refine s_nil (r_false ?_)
 refine q_next ?_
 refine k_ret ?_
 refine q_seq_ret ?_
 refine ⟨.inr rfl, a_ret [(.p 0, .p 0)] (by rw [results146]) ?_ ?_ ?_⟩ <;> simp [-List.map_set, -List.map_replicate, -List.reduceReplicate, -List.map_map, -List.map_drop, -List.map_take, num, bol, txt, w8, w16, w32, w64, lst, cls, rowO, boxO, List.take_of_length_le, chT_eq, chV_nil, wvT_nil, CUT]

theorem number_ok (Γ : Gl) (r : List UInt8) (n : Nat) (h : n ≤ r.length) (h8 : n ≤ 8) (hr : r.length ≤ 1000000) : Go.Ot.Good Γ prog 145 [.ptr (.p 0) 0, .t (num n)] [boxO 167 [.t (txt (r))]] (.tup [.t (.v (.int .u64 (bn (r.take n)))), .t (.v .nilIface)]) [some (boxO 167 [.t (txt (r.drop n))])] [] := by
 have ht : (r.take n).length = n := by simp; omega
 refine a_body F.mix func145 (by rfl) ntmps145 ?_
 refine k_seq ?_
 refine k_region rfl ?_
 refine a_op ?_
 refine a_op ?_
 refine s_nil (r_false ?_)
 refine q_next ?_
 refine k_seq ?_
 refine k_region rfl ?_
 refine a_op ?_
 refine a_op ?_
 refine a_callp [.p 0] [] [] false (take_ok Γ r n h hr) ?_
 iterate 5 refine a_op ?_
 refine s_nil (r_false ?_)
 refine q_next ?_
 refine k_seq ?_
 refine k_region rfl ?_
 refine a_op ?_
 refine s_nil (r_false ?_)
 refine q_next ?_
 refine k_seq ?_
 refine k_seq ?_
 refine k_region rfl ?_
 iterate 3 refine a_op ?_
 refine s_nil (r_false ?_)
 refine q_next ?_
 refine k_block ?_
 refine k_loopF (fun sl L (i : Nat) => ⟨setAll (setBad sl [0, 1, 9, 10, 11, 12, 13, 14, 15, 16, 19, 20, 21, 22, 23, 24, 25, 26, 27, 28]) [(8, .t (w64 (rd64 (r.take n) i))), (18, .t (num i))], Go.Ot.look (L)⟩) (fun i => i ≤ n) (fun i => n - i) (0) (a_le ?_) ?_ ?_
 ·refine le_same ?_ ?_ ?_ <;> simp [-List.map_set, -List.map_replicate, -List.reduceReplicate, -List.map_map, -List.map_drop, -List.map_take, num, bol, txt, w8, w16, w32, w64, lst, cls, rowO, boxO, List.take_of_length_le, rd64]
 ·(first | omega | simp)
 ·intro i hi
  refine a_st ?_
  refine k_seq ?_
  refine k_region rfl ?_
  refine a_op ?_
  refine s_nil (r_false ?_)
  refine q_next ?_
  refine k_seq ?_
  refine a_if (fun hc0 => ?_) (fun hc0 => ?_)
  ·(try simp only [Bool.and_eq_true, Bool.or_eq_true, Bool.or_eq_false_iff, Bool.not_eq_true', Bool.not_eq_false', dec_t, dec_f, Bool.and_eq_false_imp, beq_iff_eq, beq_eq_false_iff_ne, ne_eq] at hc0)
   refine k_skip ?_
   refine q_next ?_
   refine k_seq ?_
   refine k_block ?_
   refine k_seq ?_
   refine k_region rfl ?_
   refine a_op ?_
   refine a_op ?_
   refine s_nil (r_false ?_)
   refine q_next ?_
   refine k_region rfl ?_
   iterate 8 refine a_op ?_
   refine s_nil (r_false ?_)
   refine q_block (q_next ?_)
   refine k_region rfl ?_
   refine a_op ?_
   refine a_op ?_
   refine s_nil (r_false ?_)
   refine q_loopF (i + 1) (a_le ?_) ?_ ?_
   ·refine le_same ?_ ?_ ?_ <;> simp [-List.map_set, -List.map_replicate, -List.reduceReplicate, -List.map_map, -List.map_drop, -List.map_take, num, bol, txt, w8, w16, w32, w64, lst, cls, rowO, boxO, List.take_of_length_le, rd64]
   ·(first | omega | (simp_all <;> omega))
   ·(first | omega | (simp only []; omega))
  ·(try simp only [Bool.and_eq_true, Bool.or_eq_true, Bool.or_eq_false_iff, Bool.not_eq_true', Bool.not_eq_false', dec_t, dec_f, Bool.and_eq_false_imp, beq_iff_eq, beq_eq_false_iff_ne, ne_eq] at hc0)
   refine k_exit ?_
   refine q_seq_exit (q_loopF_exit (q_block_exit (q_next ?_)))
   refine k_seq ?_
   refine k_region rfl ?_
   obtain rfl : i = n := by omega
   have hb := rd64_bn (r.take i) i (by omega) h8
   rw [List.take_of_length_le (l := r.take i) (by omega)] at hb
   iterate 4 refine a_op ?_
   refine s_nil (r_false ?_)
   refine q_next ?_
   refine k_ret ?_
   refine ⟨.inr rfl, a_ret [(.p 0, .p 0)] (by rw [results145]) ?_ ?_ ?_⟩ <;> simp [-List.map_set, -List.map_replicate, -List.reduceReplicate, -List.map_map, -List.map_drop, -List.map_take, num, bol, txt, w8, w16, w32, w64, lst, cls, rowO, boxO, List.take_of_length_le, hb]

theorem number_cut (Γ : Gl) (r : List UInt8) (n : Nat) (h : r.length < n) (hr : r.length ≤ 1000000) : Go.Ot.Good Γ prog 145 [.ptr (.p 0) 0, .t (num n)] [boxO 167 [.t (txt (r))]] (.tup [.t (.v (.int .u64 0)), .t (chT CUT [])]) [some (boxO 167 [.t (txt (r))])] [] := by
 refine a_body F.mix func145 (by rfl) ntmps145 ?_
 refine k_seq ?_
 refine k_region rfl ?_
 refine a_op ?_
 refine a_op ?_
 refine s_nil (r_false ?_)
 refine q_next ?_
 refine k_seq ?_
 refine k_region rfl ?_
 refine a_op ?_
 refine a_op ?_
 refine a_callp [.p 0] [] [] false (take_cut Γ r n h hr) ?_
 iterate 5 refine a_op ?_
 refine s_nil (r_false ?_)
 refine q_next ?_
 refine k_seq ?_
 refine k_region rfl ?_
 refine a_op ?_
 refine s_nil (r_false ?_)
 refine q_next ?_
 refine k_seq ?_
 refine k_seq ?_
 refine k_region rfl ?_
 iterate 3 refine a_op ?_
 refine s_nil (r_false ?_)
 refine q_next ?_
 refine k_block ?_
 refine k_loopF (fun sl L (i : Unit) => ⟨setAll (setBad sl [0, 1, 9, 10, 11, 12, 13, 14, 15, 16, 19, 20, 21, 22, 23, 24, 25, 26, 27, 28]) [(8, .t (.v (.int .u64 0))), (18, .t (num 0))], Go.Ot.look (L)⟩) (fun _ => True) (fun _ => 0) (()) (a_le ?_) ?_ ?_
 ·refine le_same ?_ ?_ ?_ <;> simp [-List.map_set, -List.map_replicate, -List.reduceReplicate, -List.map_map, -List.map_drop, -List.map_take, num, bol, txt, w8, w16, w32, w64, lst, cls, rowO, boxO, List.take_of_length_le]
 ·trivial
 ·intro i _
  refine a_st ?_
  refine k_seq ?_
  refine k_region rfl ?_
  refine a_op ?_
  refine s_nil (r_false ?_)
  refine q_next ?_
  refine k_seq ?_
  refine a_false ?_
  refine k_exit ?_
  refine q_seq_exit (q_loopF_exit (q_block_exit (q_next ?_)))
  refine k_seq ?_
  refine k_region rfl ?_
  iterate 4 refine a_op ?_
  refine s_nil (r_false ?_)
  refine q_next ?_
  refine k_ret ?_
  refine ⟨.inr rfl, a_ret [(.p 0, .p 0)] (by rw [results145]) ?_ ?_ ?_⟩ <;> simp [-List.map_set, -List.map_replicate, -List.reduceReplicate, -List.map_map, -List.map_drop, -List.map_take, num, bol, txt, w8, w16, w32, w64, lst, cls, rowO, boxO, List.take_of_length_le, chT_eq, chV_nil, wvT_nil]

end Go.Proofs.Tryz
