/- Contracts of this program's functions. -/
import Derived.Test.YtppicdhlpdhoiaaDoorSSM4
set_option maxHeartbeats 4000000
set_option maxRecDepth 100000
set_option linter.unusedVariables false
set_option linter.unusedSimpArgs false
namespace Go.Proofs.Tryd
open Go Go.Ot

theorem dtOf_len (l : List Ft) : (dtOf l).length = l.length := by simp [dtOf]
theorem of_small {M : Nat} (hM : M ≤ 2000) {l : List (Int × Int)} (h : ∀ d ∈ l, d.1 < 4 ∧ d.2 ≤ (M : Int)) : ∀ i, i ≤ l.length → (ofF (l.take i)).length ≤ 100000 := fun i _ => by
 have hi : inv (M : Int) ⟨ofF (l.take i), []⟩ := ⟨ofF_mr _, ofF_in _ mrP_nil (fun r h => by cases h) (fun d hd => h d (List.mem_of_mem_take hd)), fun f hf => (by cases hf), List.Pairwise.nil⟩
 have := (inv_few hi).2
 show (ofF (l.take i)).length ≤ 100000
 simp only at this; omega
theorem of_small1 {M : Nat} (hM : M ≤ 2000) {l : List (Int × Int)} (h : ∀ d ∈ l, d.1 < 4 ∧ d.2 ≤ (M : Int)) : (ofF l).length ≤ 100000 := by
 have := of_small hM h l.length (Nat.le_refl _)
 rwa [List.take_length] at this
theorem suOf_b {C : Int} (hC : 0 ≤ C) : ∀ {l : List Ft} {n : Int}, (∀ f ∈ l, -C ≤ f.m ∧ f.m ≤ C) → n - C * l.length ≤ suOf n l ∧ suOf n l ≤ n + C * l.length
 | [], n, _ => by simp [suOf]
 | f :: l, n, h => by
  have ih := suOf_b hC (l := l) (n := n + f.m) (fun g hg => h g (by simp [hg]))
  have hf := h f (by simp)
  have e : suOf n (f :: l) = suOf (n + f.m) l := rfl
  rw [e, List.length_cons]
  have e2 : C * ((l.length + 1 : Nat) : Int) = C * (l.length : Int) + C := by rw [show ((l.length + 1 : Nat) : Int) = (l.length : Int) + 1 from rfl, Int.mul_add, Int.mul_one]
  rw [e2]; omega
theorem ft_m {f : Ft} (h : ftP f) : -1099511627776 ≤ f.m ∧ f.m ≤ 1099511627776 := by
 rcases h.2 with ⟨_, _, h⟩ | ⟨_, _, h⟩ <;> omega
theorem goL_len (s : Sa) (dev : Int) (o : Opx) (i : Nat) : (goL s dev o i).length ≤ i := Nat.le_trans (List.length_filter_le _ _) (by rw [List.length_take]; omega)
theorem su_b {s : Sa} {dev : Int} {o : Opx} (hs : ∀ f ∈ s.fs, ftP f) (h1 : -1099511627776 ≤ o.n) (h2 : o.n ≤ 1099511627776) {i : Nat} (hi : i ≤ 9000) : -10000000000000000 ≤ suOf o.n (goL s dev o i) ∧ suOf o.n (goL s dev o i) ≤ 10000000000000000 := by
 have h := suOf_b (C := 1099511627776) (by omega) (l := goL s dev o i) (n := o.n) (fun f hf => ft_m (hs f (goL_in hf)))
 have := goL_len s dev o i
 omega
theorem goL_0 (s : Sa) (dev : Int) (o : Opx) : goL s dev o 0 = [] := rfl
theorem suOf_0 (n : Int) : suOf n [] = n := rfl
theorem dtOf_0 : dtOf [] = [] := rfl
theorem dt_in {M : Nat} {s : Sa} (hs : inv M s) (dev : Int) (o : Opx) (i : Nat) : ∀ d ∈ dtOf (goL s dev o i), d.1 < 4 ∧ d.2 ≤ ((M + 1 : Nat) : Int) := fun d hd => by
 obtain ⟨f, hf, rfl⟩ := List.mem_map.1 hd
 have := has_in hs.1 hs.2 (hs.3 f (goL_in hf)).2
 exact ⟨this.2.1, by show f.n ≤ _; omega⟩
theorem dt_in1 {M : Nat} {l : List (Int × Int)} (h : ∀ d ∈ l, d.1 < 4 ∧ d.2 ≤ (M : Int)) {a b : Int} (ha : a < 4) (hb : b ≤ M) : ∀ d ∈ l ++ [(a, b)], d.1 < 4 ∧ d.2 ≤ (M : Int) := fun d hd => by
 rcases List.mem_append.1 hd with h1 | h1
 ·exact h d h1
 ·obtain rfl := List.mem_singleton.1 h1; exact ⟨ha, hb⟩
theorem do_none {s : Sa} {dev : Int} {o : Opx} (hk : o.kind = 3 ∨ o.kind = 5) (h : goL s dev o s.fs.length = []) : doF s dev o = (⟨[], []⟩, 2) := by rw [doF, if_pos hk, if_pos h]
theorem do_del {s : Sa} {dev : Int} {o : Opx} (hk : o.kind = 3 ∨ o.kind = 5) (h : goL s dev o s.fs.length ≠ []) : doF s dev o = endF s ⟨ofF (dtOf (goL s dev o s.fs.length)), []⟩ := by rw [doF, if_pos hk, if_neg h]
theorem do_big {s : Sa} {dev : Int} {o : Opx} (hk : ¬ (o.kind = 3 ∨ o.kind = 5)) {f : Ft} (hf : newF s dev o (goL s dev o s.fs.length) = f) (h : f.n > 4503599627370496 ∨ f.m < -1099511627776 ∨ f.m > 1099511627776) : doF s dev o = (⟨[], []⟩, 4) := by subst hf; rw [doF, if_neg hk, if_pos h]
theorem do_new {s : Sa} {dev : Int} {o : Opx} (hk : ¬ (o.kind = 3 ∨ o.kind = 5)) {f : Ft} (hf : newF s dev o (goL s dev o s.fs.length) = f) (h : ¬ (f.n > 4503599627370496 ∨ f.m < -1099511627776 ∨ f.m > 1099511627776)) : doF s dev o = endF s ⟨ofF (dtOf (goL s dev o s.fs.length) ++ [(dev, f.n)]), [f]⟩ := by subst hf; rw [doF, if_neg hk, if_neg h]
theorem end_big {s d : Sa} (h : 400 < (joF s d).fs.length) : endF s d = (⟨[], []⟩, 4) := if_pos h
theorem end_ok {s d : Sa} (h : ¬ 400 < (joF s d).fs.length) : endF s d = (d, 0) := if_neg h
theorem newF_4 {s : Sa} {dev : Int} {o : Opx} {l : List Ft} (h : o.kind = 4) : newF s dev o l = ⟨dev, laF s.seen dev + 1, o.key, 3, [], suOf o.n l⟩ := if_pos h
theorem newF_n {s : Sa} {dev : Int} {o : Opx} {l : List Ft} (h : o.kind ≠ 4) : newF s dev o l = ⟨dev, laF s.seen dev + 1, o.key, o.kind, o.item, 0⟩ := if_neg h
attribute [local irreducible] wpK wpS seqK blockK loopF regK meetK OpSpec Le
theorem do_good (Γ : Gl) (M : Nat) (hM : M ≤ 1000) (s : Sa) (hs : inv M s) (dev : Int) (h0 : 0 ≤ dev) (h4 : dev < 4) (o : Opx) (ho : opP o) : Go.Ot.Good Γ prog 15 [.agg [.t (.sl s.seen.length (s.seen.flatMap rnT)), .t (.sl s.fs.length (s.fs.flatMap ftT))], .t (num dev), .agg [.t (num o.kind), .t (txt o.key), .t (txt o.item), .t (num o.n)]] [] (.agg [.t (.sl (doF s dev o).1.seen.length ((doF s dev o).1.seen.flatMap rnT)), .t (.sl (doF s dev o).1.fs.length ((doF s dev o).1.fs.flatMap ftT)), .t (num (doF s dev o).2)]) [] [] := by
 obtain ⟨o1, o2, o3, o4, o5, o6⟩ := ho
 have hfew := inv_few hs
 have hsq := fun f hf => (hs.3 f hf).1
 refine a_body F.mix func15 (by rfl) ntmps15 ?_
 refine k_seq ?_
 refine k_region rfl ?_
 iterate 3 refine a_op ?_
 refine s_nil (r_false ?_)
 refine q_next ?_
 refine k_meetF (fun sl L (b7 : Bool) => ⟨setAll (setBad sl [0, 2, 13, 14, 15, 16, 17, 18, 19, 20, 21, 22, 23, 24, 25]) [(7, .t (bol b7))], Go.Ot.look (L)⟩) (fun b => b = decide (o.kind = 1 ∨ o.kind = 2 ∨ o.kind = 3)) ?_ ?_
 ·skip
  refine k_region rfl ?_
  rcases (show o.kind = 1 ∨ o.kind = 2 ∨ o.kind = 3 ∨ o.kind = 4 ∨ o.kind = 5 by omega) with k1 | k1 | k1 | k1 | k1
  ·skip
   iterate 4 refine a_op ?_
   refine a_no ?_
   refine a_no ?_
   refine a_no ?_
   refine a_op ?_
   refine a_op ?_
   refine a_no ?_
   refine a_no ?_
   refine a_no ?_
   refine a_op ?_
   refine a_op ?_
   refine s_nil (r_false ?_)
   refine q_meetF (true) (a_le ?_) ?_
   ·refine le_of [(.r 0 0 0, .r 0 0 0), (.r 0 1 0, .r 0 1 0), (.r 0 2 0, .r 0 2 0)] ?_ ?_ ?_ <;> simp [-List.map_set, -List.map_replicate, -List.reduceReplicate, -List.map_map, -List.map_drop, -List.map_take, num, bol, txt, w8, w16, w32, w64, lst, cls, rowO, boxO, List.take_of_length_le, Wr.cellsL_len, wA, Wr.k_mk, Wr.n_mk, Wr.s_mk, Wr.l_mk, Wr.cellsL, Wr.z_eq, rnT, ftT, dtT]
   ·exact (decide_eq_true (by omega)).symm
  ·skip
   iterate 4 refine a_op ?_
   refine a_go ?_
   refine a_go ?_
   refine a_go ?_
   refine a_op ?_
   refine a_op ?_
   refine a_no ?_
   refine a_no ?_
   refine a_no ?_
   refine a_op ?_
   refine a_op ?_
   refine s_nil (r_false ?_)
   refine q_meetF (true) (a_le ?_) ?_
   ·refine le_of [(.r 0 0 0, .r 0 0 0), (.r 0 1 0, .r 0 1 0), (.r 0 2 0, .r 0 2 0)] ?_ ?_ ?_ <;> simp [-List.map_set, -List.map_replicate, -List.reduceReplicate, -List.map_map, -List.map_drop, -List.map_take, num, bol, txt, w8, w16, w32, w64, lst, cls, rowO, boxO, List.take_of_length_le, Wr.cellsL_len, wA, Wr.k_mk, Wr.n_mk, Wr.s_mk, Wr.l_mk, Wr.cellsL, Wr.z_eq, rnT, ftT, dtT]
   ·exact (decide_eq_true (by omega)).symm
  ·skip
   iterate 4 refine a_op ?_
   refine a_go ?_
   refine a_go ?_
   refine a_go ?_
   refine a_op ?_
   refine a_op ?_
   refine a_go ?_
   refine a_go ?_
   refine a_go ?_
   refine a_op ?_
   refine a_op ?_
   refine s_nil (r_false ?_)
   refine q_meetF (true) (a_le ?_) ?_
   ·refine le_of [(.r 0 0 0, .r 0 0 0), (.r 0 1 0, .r 0 1 0), (.r 0 2 0, .r 0 2 0)] ?_ ?_ ?_ <;> simp [-List.map_set, -List.map_replicate, -List.reduceReplicate, -List.map_map, -List.map_drop, -List.map_take, num, bol, txt, w8, w16, w32, w64, lst, cls, rowO, boxO, List.take_of_length_le, Wr.cellsL_len, wA, Wr.k_mk, Wr.n_mk, Wr.s_mk, Wr.l_mk, Wr.cellsL, Wr.z_eq, rnT, ftT, dtT]
   ·exact (decide_eq_true (by omega)).symm
  ·skip
   iterate 4 refine a_op ?_
   refine a_go ?_
   refine a_go ?_
   refine a_go ?_
   refine a_op ?_
   refine a_op ?_
   refine a_go ?_
   refine a_go ?_
   refine a_go ?_
   refine a_op ?_
   refine a_op ?_
   refine s_nil (r_false ?_)
   refine q_meetF (false) (a_le ?_) ?_
   ·refine le_of [(.r 0 0 0, .r 0 0 0), (.r 0 1 0, .r 0 1 0), (.r 0 2 0, .r 0 2 0)] ?_ ?_ ?_ <;> simp [-List.map_set, -List.map_replicate, -List.reduceReplicate, -List.map_map, -List.map_drop, -List.map_take, num, bol, txt, w8, w16, w32, w64, lst, cls, rowO, boxO, List.take_of_length_le, Wr.cellsL_len, wA, Wr.k_mk, Wr.n_mk, Wr.s_mk, Wr.l_mk, Wr.cellsL, Wr.z_eq, rnT, ftT, dtT]
   ·exact (decide_eq_false (by omega)).symm
  ·skip
   iterate 4 refine a_op ?_
   refine a_go ?_
   refine a_go ?_
   refine a_go ?_
   refine a_op ?_
   refine a_op ?_
   refine a_go ?_
   refine a_go ?_
   refine a_go ?_
   refine a_op ?_
   refine a_op ?_
   refine s_nil (r_false ?_)
   refine q_meetF (false) (a_le ?_) ?_
   ·refine le_of [(.r 0 0 0, .r 0 0 0), (.r 0 1 0, .r 0 1 0), (.r 0 2 0, .r 0 2 0)] ?_ ?_ ?_ <;> simp [-List.map_set, -List.map_replicate, -List.reduceReplicate, -List.map_map, -List.map_drop, -List.map_take, num, bol, txt, w8, w16, w32, w64, lst, cls, rowO, boxO, List.take_of_length_le, Wr.cellsL_len, wA, Wr.k_mk, Wr.n_mk, Wr.s_mk, Wr.l_mk, Wr.cellsL, Wr.z_eq, rnT, ftT, dtT]
   ·exact (decide_eq_false (by omega)).symm
 ·intro b7 hb7
  refine a_st ?_
  refine k_seq ?_
  refine k_meetF (fun sl L (u : Unit) => ⟨setAll (setBad sl [0, 2, 7, 13, 14, 15, 16, 17, 18, 19, 20, 21, 22, 23, 24, 25, 26, 27, 28, 29, 30, 31, 32, 33, 34, 35, 36, 37, 38, 39, 40, 41, 42, 43, 44, 45, 46, 47, 48, 49, 50, 51, 52, 53, 54, 55, 56, 57, 58, 59, 60, 61, 62, 63, 64, 65, 66, 67, 68, 69, 70]) [(71, .t (bol false))], Go.Ot.look (L)⟩) (fun u => True) ?_ ?_
  ·skip
   refine k_region rfl ?_
   have h7 : (o.kind = 4 ∧ b7 = false) ∨ (o.kind = 5 ∧ b7 = false) ∨ ((o.kind = 1 ∨ o.kind = 2 ∨ o.kind = 3) ∧ b7 = true) := by
    rcases (show o.kind = 4 ∨ o.kind = 5 ∨ (o.kind = 1 ∨ o.kind = 2 ∨ o.kind = 3) by omega) with h | h | h
    ·exact .inl ⟨h, by rw [hb7]; exact decide_eq_false (by omega)⟩
    ·exact .inr (.inl ⟨h, by rw [hb7]; exact decide_eq_false (by omega)⟩)
    ·exact .inr (.inr ⟨h, by rw [hb7]; exact decide_eq_true h⟩)
   rcases h7 with ⟨k1, rfl⟩ | ⟨k1, rfl⟩ | ⟨k1, rfl⟩
   ·skip
    iterate 3 refine a_op ?_
    refine a_go ?_
    refine a_go ?_
    refine a_op ?_
    refine a_op ?_
    refine a_go ?_
    refine a_go ?_
    refine a_go ?_
    refine a_op ?_
    refine a_op ?_
    refine a_go ?_
    refine a_go ?_
    refine a_go ?_
    refine a_op ?_
    refine a_op ?_
    refine a_go ?_
    refine a_go ?_
    refine a_go ?_
    refine a_go ?_
    refine a_op ?_
    refine a_op ?_
    refine a_go ?_
    refine a_go ?_
    refine a_no ?_
    refine a_no ?_
    refine a_no ?_
    refine a_no ?_
    refine a_go ?_
    refine a_op ?_
    refine a_op ?_
    refine a_go ?_
    refine a_go ?_
    refine a_go ?_
    refine a_go ?_
    refine a_go ?_
    refine a_go ?_
    refine a_go ?_
    refine a_go ?_
    refine a_go ?_
    refine a_go ?_
    refine a_go ?_
    refine a_go ?_
    refine a_go ?_
    refine a_op ?_
    refine s_nil (r_false ?_)
    refine q_meetF (()) (a_le ?_) ?_
    ·refine le_of [(.r 0 0 0, .r 0 0 0), (.r 0 1 0, .r 0 1 0), (.r 0 2 0, .r 0 2 0)] ?_ ?_ ?_ <;> simp [-List.map_set, -List.map_replicate, -List.reduceReplicate, -List.map_map, -List.map_drop, -List.map_take, num, bol, txt, w8, w16, w32, w64, lst, cls, rowO, boxO, List.take_of_length_le, Wr.cellsL_len, wA, Wr.k_mk, Wr.n_mk, Wr.s_mk, Wr.l_mk, Wr.cellsL, Wr.z_eq, rnT, ftT, dtT]
    ·exact True.intro
   ·skip
    iterate 3 refine a_op ?_
    refine a_go ?_
    refine a_go ?_
    refine a_op ?_
    refine a_op ?_
    refine a_go ?_
    refine a_go ?_
    refine a_go ?_
    refine a_op ?_
    refine a_op ?_
    refine a_go ?_
    refine a_go ?_
    refine a_go ?_
    refine a_op ?_
    refine a_op ?_
    refine a_go ?_
    refine a_go ?_
    refine a_go ?_
    refine a_go ?_
    refine a_op ?_
    refine a_op ?_
    refine a_go ?_
    refine a_go ?_
    refine a_no ?_
    refine a_no ?_
    refine a_no ?_
    refine a_no ?_
    refine a_go ?_
    refine a_op ?_
    refine a_op ?_
    refine a_go ?_
    refine a_go ?_
    refine a_go ?_
    refine a_go ?_
    refine a_no ?_
    refine a_no ?_
    refine a_no ?_
    refine a_no ?_
    refine a_no ?_
    refine a_no ?_
    refine a_no ?_
    refine a_no ?_
    refine a_go ?_
    refine a_op ?_
    refine s_nil (r_false ?_)
    refine q_meetF (()) (a_le ?_) ?_
    ·refine le_of [(.r 0 0 0, .r 0 0 0), (.r 0 1 0, .r 0 1 0), (.r 0 2 0, .r 0 2 0)] ?_ ?_ ?_ <;> simp [-List.map_set, -List.map_replicate, -List.reduceReplicate, -List.map_map, -List.map_drop, -List.map_take, num, bol, txt, w8, w16, w32, w64, lst, cls, rowO, boxO, List.take_of_length_le, Wr.cellsL_len, wA, Wr.k_mk, Wr.n_mk, Wr.s_mk, Wr.l_mk, Wr.cellsL, Wr.z_eq, rnT, ftT, dtT]
    ·exact True.intro
   ·skip
    iterate 3 refine a_op ?_
    refine a_go ?_
    refine a_go ?_
    refine a_op ?_
    refine a_op ?_
    refine a_go ?_
    refine a_go ?_
    refine a_go ?_
    refine a_op ?_
    refine a_op ?_
    refine a_go ?_
    refine a_go ?_
    refine a_go ?_
    refine a_op ?_
    refine a_op ?_
    refine a_go ?_
    refine a_go ?_
    refine a_go ?_
    refine a_go ?_
    refine a_op ?_
    refine a_op ?_
    refine a_go ?_
    refine a_go ?_
    refine a_go ?_
    refine a_go ?_
    refine a_go ?_
    refine a_go ?_
    refine a_go ?_
    refine a_op ?_
    refine a_op ?_
    refine a_go ?_
    refine a_go ?_
    refine a_go ?_
    refine a_go ?_
    refine a_no ?_
    refine a_no ?_
    refine a_no ?_
    refine a_no ?_
    refine a_no ?_
    refine a_no ?_
    refine a_no ?_
    refine a_no ?_
    refine a_go ?_
    refine a_op ?_
    refine s_nil (r_false ?_)
    refine q_meetF (()) (a_le ?_) ?_
    ·refine le_of [(.r 0 0 0, .r 0 0 0), (.r 0 1 0, .r 0 1 0), (.r 0 2 0, .r 0 2 0)] ?_ ?_ ?_ <;> simp [-List.map_set, -List.map_replicate, -List.reduceReplicate, -List.map_map, -List.map_drop, -List.map_take, num, bol, txt, w8, w16, w32, w64, lst, cls, rowO, boxO, List.take_of_length_le, Wr.cellsL_len, wA, Wr.k_mk, Wr.n_mk, Wr.s_mk, Wr.l_mk, Wr.cellsL, Wr.z_eq, rnT, ftT, dtT]
    ·exact True.intro
  ·intro u _
   refine a_st ?_
   refine a_false ?_
   refine k_skip ?_
   refine q_next ?_
   refine k_seq ?_
   refine k_region rfl ?_
   refine a_op ?_
   refine s_nil (r_false ?_)
   refine q_next ?_
   refine k_seq ?_
   refine k_region rfl ?_
   iterate 3 refine a_op ?_
   refine s_nil (r_false ?_)
   refine q_next ?_
   refine k_seq ?_
   refine k_seq ?_
   refine k_region rfl ?_
   refine a_op ?_
   refine s_nil (r_false ?_)
   refine q_next ?_
   refine k_block ?_
   refine k_loopF (fun sl L (i : Nat) => ⟨setAll (setBad sl [0, 2, 7, 13, 14, 15, 16, 17, 18, 19, 20, 21, 22, 23, 24, 25, 26, 27, 28, 29, 30, 31, 32, 33, 34, 35, 36, 37, 38, 39, 40, 41, 42, 43, 44, 45, 46, 47, 48, 49, 50, 51, 52, 53, 54, 55, 56, 57, 58, 59, 60, 61, 62, 63, 64, 65, 66, 67, 68, 69, 70, 71, 72, 73, 74, 75, 76, 77, 78, 79, 80, 81, 82, 83, 84, 85, 86, 87, 88, 89, 90, 91, 92, 93, 94, 95, 96, 97, 98, 99, 100, 101, 102, 103, 104, 105, 106]) [(8, .msl (.n 9) 0 (dtOf (goL s dev o i)).length 2), (9, .t (num (suOf o.n (goL s dev o i)))), (10, .t (num i))], Go.Ot.look (putL (.n 9) (rowDt (dtOf (goL s dev o i))) L)⟩) (fun i => i ≤ s.fs.length) (fun i => s.fs.length - i) (0) (a_le ?_) ?_ ?_
   ·refine le_of [(.r 0 0 0, .r 0 0 0), (.r 0 1 0, .r 0 1 0), (.r 0 2 0, .r 0 2 0)] ?_ ?_ ?_ <;> simp [-List.map_set, -List.map_replicate, -List.reduceReplicate, -List.map_map, -List.map_drop, -List.map_take, num, bol, txt, w8, w16, w32, w64, lst, cls, rowO, boxO, List.take_of_length_le, Wr.cellsL_len, wA, Wr.k_mk, Wr.n_mk, Wr.s_mk, Wr.l_mk, Wr.cellsL, Wr.z_eq, rnT, ftT, dtT, rowDt, goL_0, dtOf_0, suOf_0] <;> (try omega)
   ·(first | omega | simp)
   ·intro i hi
    have hiL : i ≤ 9000 := by omega
    have hgl := goL_len s dev o i
    have hdl := dtOf_len (goL s dev o i)
    refine a_st ?_
    refine k_seq ?_
    refine k_seq ?_
    refine k_region rfl ?_
    iterate 5 refine a_op ?_
    refine s_nil (r_false ?_)
    refine q_next ?_
    refine a_if (fun hc1 => ?_) (fun hc1 => ?_)
    ·(try simp only [Bool.and_eq_true, Bool.or_eq_true, Bool.or_eq_false_iff, Bool.not_eq_true', Bool.not_eq_false', dec_t, dec_f, Bool.and_eq_false_imp, beq_iff_eq, beq_eq_false_iff_ne, ne_eq] at hc1)
     refine k_skip ?_
     refine q_next ?_
     refine k_seq ?_
     refine k_block ?_
     refine k_seq ?_
     refine k_region rfl ?_
     iterate 5 refine a_opd ?_
     have hib : i < s.fs.length := by omega
     obtain ⟨f, he⟩ : ∃ f, s.fs.getD i default = f := ⟨_, rfl⟩
     simp only [he]
     obtain ⟨b, hb⟩ : ∃ b, goB f dev o = b := ⟨_, rfl⟩
     have hfm := ft_m (hsq f (by rw [← he, getD_eq hib]; exact List.getElem_mem _))
     have hsb := su_b (dev := dev) hsq o5 o6 hiL
     refine a_opd ?_
     refine a_opd ?_
     refine a_calld [] false (by have h := goes_good Γ f dev o ⟨o1, o2⟩; rw [hb] at h; exact h) ?_
     refine s_nil (r_true (by kernel_rfl) ?_)
     refine q_next ?_
     refine a_if (fun hc2 => ?_) (fun hc2 => ?_)
     ·(try simp only [Bool.and_eq_true, Bool.or_eq_true, Bool.or_eq_false_iff, Bool.not_eq_true', Bool.not_eq_false', dec_t, dec_f, Bool.and_eq_false_imp, beq_iff_eq, beq_eq_false_iff_ne, ne_eq] at hc2)
      subst hc2
      have hn1 := goL_yes hib (by rw [he]; exact hb)
      rw [he] at hn1
      have hn2 := dtOf_app (goL s dev o i) f
      have hn3 := suOf_app o.n (goL s dev o i) f
      refine k_seq ?_
      refine k_region rfl ?_
      iterate 7 refine a_op ?_
      simp only [he]
      iterate 3 refine a_op ?_
      refine s_nil (r_false ?_)
      refine q_next ?_
      refine k_region rfl ?_
      iterate 7 refine a_op ?_
      simp only [he]
      refine a_op ?_
      refine a_op ?_
      refine s_nil (r_false ?_)
      refine q_block (q_next ?_)
      refine k_region rfl ?_
      iterate 3 refine a_op ?_
      refine s_nil (r_false ?_)
      refine q_loopF (i + 1) (a_le ?_) ?_ ?_
      ·refine le_of [(.r 0 0 0, .r 0 0 0), (.r 0 1 0, .r 0 1 0), (.r 0 2 0, .r 0 2 0), (.n 9, .n 9)] ?_ ?_ ?_ <;> simp [-List.map_set, -List.map_replicate, -List.reduceReplicate, -List.map_map, -List.map_drop, -List.map_take, num, bol, txt, w8, w16, w32, w64, lst, cls, rowO, boxO, List.take_of_length_le, Wr.cellsL_len, wA, Wr.k_mk, Wr.n_mk, Wr.s_mk, Wr.l_mk, Wr.cellsL, Wr.z_eq, rnT, ftT, dtT, rowDt, hn1, hn2, hn3, List.flatMap_append, List.map_append, dtT] <;> (try omega)
      ·(first | omega | (simp_all <;> omega))
      ·(first | omega | (simp only []; omega))
     ·(try simp only [Bool.and_eq_true, Bool.or_eq_true, Bool.or_eq_false_iff, Bool.not_eq_true', Bool.not_eq_false', dec_t, dec_f, Bool.and_eq_false_imp, beq_iff_eq, beq_eq_false_iff_ne, ne_eq] at hc2)
      have hbf : b = false := (by simpa using hc2)
      subst hbf
      have hn1 := goL_not hib (by rw [he]; exact hb)
      refine k_skip ?_
      refine q_block (q_next ?_)
      refine k_region rfl ?_
      iterate 3 refine a_op ?_
      refine s_nil (r_false ?_)
      refine q_loopF (i + 1) (a_le ?_) ?_ ?_
      ·refine le_of [(.r 0 0 0, .r 0 0 0), (.r 0 1 0, .r 0 1 0), (.r 0 2 0, .r 0 2 0), (.n 9, .n 9)] ?_ ?_ ?_ <;> simp [-List.map_set, -List.map_replicate, -List.reduceReplicate, -List.map_map, -List.map_drop, -List.map_take, num, bol, txt, w8, w16, w32, w64, lst, cls, rowO, boxO, List.take_of_length_le, Wr.cellsL_len, wA, Wr.k_mk, Wr.n_mk, Wr.s_mk, Wr.l_mk, Wr.cellsL, Wr.z_eq, rnT, ftT, dtT, rowDt, hn1] <;> (try omega)
      ·(first | omega | (simp_all <;> omega))
      ·(first | omega | (simp only []; omega))
    ·(try simp only [Bool.and_eq_true, Bool.or_eq_true, Bool.or_eq_false_iff, Bool.not_eq_true', Bool.not_eq_false', dec_t, dec_f, Bool.and_eq_false_imp, beq_iff_eq, beq_eq_false_iff_ne, ne_eq] at hc1)
     have hil : i = s.fs.length := by omega
     subst hil
     have hin := dt_in hs dev o s.fs.length
     obtain ⟨L0, hL0⟩ : ∃ l, goL s dev o s.fs.length = l := ⟨_, rfl⟩
     obtain ⟨G, hG⟩ : ∃ g, dtOf L0 = g := ⟨_, rfl⟩
     obtain ⟨su, hsu⟩ : ∃ x, suOf o.n L0 = x := ⟨_, rfl⟩
     have hGl := dtOf_len L0
     have hsb := su_b (dev := dev) hsq o5 o6 (i := s.fs.length) (by omega)
     simp only [hL0, hG, hsu] at hin hGl hgl hdl hsb ⊢
     have hge : L0 = [] ↔ G.length = 0 := by rw [hGl, List.length_eq_zero_iff]
     refine k_exit ?_
     refine q_seq_exit (q_loopF_exit (q_block_exit (q_next ?_)))
     refine k_seq ?_
     refine k_meetF (fun sl L (b9 : Bool) => ⟨setAll (setBad sl [0, 2, 7, 10, 13, 14, 15, 16, 17, 18, 19, 20, 21, 22, 23, 24, 25, 26, 27, 28, 29, 30, 31, 32, 33, 34, 35, 36, 37, 38, 39, 40, 41, 42, 43, 44, 45, 46, 47, 48, 49, 50, 51, 52, 53, 54, 55, 56, 57, 58, 59, 60, 61, 62, 63, 64, 65, 66, 67, 68, 69, 70, 71, 72, 73, 74, 75, 76, 77, 78, 79, 80, 81, 82, 83, 84, 85, 86, 87, 88, 89, 90, 91, 92, 93, 94, 95, 96, 97, 98, 99, 100, 101, 102, 103, 104, 105, 106, 107, 108, 109, 110, 111, 112, 113, 114, 115, 116, 117, 118]) [(119, .t (bol b9))], Go.Ot.look (L)⟩) (fun b => b = decide (G.length = 0 ∧ (o.kind = 3 ∨ o.kind = 5))) ?_ ?_
     ·skip
      refine k_region rfl ?_
      rcases (show (G.length = 0 ∧ o.kind ≠ 3 ∧ o.kind ≠ 5) ∨ (0 < G.length ∧ o.kind ≠ 3 ∧ o.kind ≠ 5) ∨ (G.length = 0 ∧ o.kind = 3) ∨ (0 < G.length ∧ o.kind = 3) ∨ (G.length = 0 ∧ o.kind = 5) ∨ (0 < G.length ∧ o.kind = 5) by omega) with ⟨g0, k1, k2⟩ | ⟨g0, k1, k2⟩ | ⟨g0, k1⟩ | ⟨g0, k1⟩ | ⟨g0, k1⟩ | ⟨g0, k1⟩
      ·skip
       iterate 4 refine a_op ?_
       refine a_go ?_
       refine a_go ?_
       refine a_go ?_
       refine a_go ?_
       refine a_go ?_
       refine a_go ?_
       refine a_go ?_
       refine a_go ?_
       refine a_op ?_
       refine s_nil (r_false ?_)
       refine q_meetF (false) (a_le ?_) ?_
       ·refine le_of [(.r 0 0 0, .r 0 0 0), (.r 0 1 0, .r 0 1 0), (.r 0 2 0, .r 0 2 0), (.n 9, .n 9)] ?_ ?_ ?_ <;> simp [-List.map_set, -List.map_replicate, -List.reduceReplicate, -List.map_map, -List.map_drop, -List.map_take, num, bol, txt, w8, w16, w32, w64, lst, cls, rowO, boxO, List.take_of_length_le, Wr.cellsL_len, wA, Wr.k_mk, Wr.n_mk, Wr.s_mk, Wr.l_mk, Wr.cellsL, Wr.z_eq, rnT, ftT, dtT]
       ·exact (decide_eq_false (by omega)).symm
      ·skip
       iterate 4 refine a_op ?_
       refine a_no ?_
       refine a_no ?_
       refine a_no ?_
       refine a_no ?_
       refine a_no ?_
       refine a_no ?_
       refine a_no ?_
       refine a_no ?_
       refine a_op ?_
       refine s_nil (r_false ?_)
       refine q_meetF (false) (a_le ?_) ?_
       ·refine le_of [(.r 0 0 0, .r 0 0 0), (.r 0 1 0, .r 0 1 0), (.r 0 2 0, .r 0 2 0), (.n 9, .n 9)] ?_ ?_ ?_ <;> simp [-List.map_set, -List.map_replicate, -List.reduceReplicate, -List.map_map, -List.map_drop, -List.map_take, num, bol, txt, w8, w16, w32, w64, lst, cls, rowO, boxO, List.take_of_length_le, Wr.cellsL_len, wA, Wr.k_mk, Wr.n_mk, Wr.s_mk, Wr.l_mk, Wr.cellsL, Wr.z_eq, rnT, ftT, dtT]
       ·exact (decide_eq_false (by omega)).symm
      ·skip
       iterate 4 refine a_op ?_
       refine a_go ?_
       refine a_go ?_
       refine a_go ?_
       refine a_go ?_
       refine a_no ?_
       refine a_no ?_
       refine a_no ?_
       refine a_go ?_
       refine a_op ?_
       refine s_nil (r_false ?_)
       refine q_meetF (true) (a_le ?_) ?_
       ·refine le_of [(.r 0 0 0, .r 0 0 0), (.r 0 1 0, .r 0 1 0), (.r 0 2 0, .r 0 2 0), (.n 9, .n 9)] ?_ ?_ ?_ <;> simp [-List.map_set, -List.map_replicate, -List.reduceReplicate, -List.map_map, -List.map_drop, -List.map_take, num, bol, txt, w8, w16, w32, w64, lst, cls, rowO, boxO, List.take_of_length_le, Wr.cellsL_len, wA, Wr.k_mk, Wr.n_mk, Wr.s_mk, Wr.l_mk, Wr.cellsL, Wr.z_eq, rnT, ftT, dtT]
       ·exact (decide_eq_true (by omega)).symm
      ·skip
       iterate 4 refine a_op ?_
       refine a_no ?_
       refine a_no ?_
       refine a_no ?_
       refine a_no ?_
       refine a_no ?_
       refine a_no ?_
       refine a_no ?_
       refine a_no ?_
       refine a_op ?_
       refine s_nil (r_false ?_)
       refine q_meetF (false) (a_le ?_) ?_
       ·refine le_of [(.r 0 0 0, .r 0 0 0), (.r 0 1 0, .r 0 1 0), (.r 0 2 0, .r 0 2 0), (.n 9, .n 9)] ?_ ?_ ?_ <;> simp [-List.map_set, -List.map_replicate, -List.reduceReplicate, -List.map_map, -List.map_drop, -List.map_take, num, bol, txt, w8, w16, w32, w64, lst, cls, rowO, boxO, List.take_of_length_le, Wr.cellsL_len, wA, Wr.k_mk, Wr.n_mk, Wr.s_mk, Wr.l_mk, Wr.cellsL, Wr.z_eq, rnT, ftT, dtT]
       ·exact (decide_eq_false (by omega)).symm
      ·skip
       iterate 4 refine a_op ?_
       refine a_go ?_
       refine a_go ?_
       refine a_go ?_
       refine a_go ?_
       refine a_go ?_
       refine a_go ?_
       refine a_go ?_
       refine a_go ?_
       refine a_op ?_
       refine s_nil (r_false ?_)
       refine q_meetF (true) (a_le ?_) ?_
       ·refine le_of [(.r 0 0 0, .r 0 0 0), (.r 0 1 0, .r 0 1 0), (.r 0 2 0, .r 0 2 0), (.n 9, .n 9)] ?_ ?_ ?_ <;> simp [-List.map_set, -List.map_replicate, -List.reduceReplicate, -List.map_map, -List.map_drop, -List.map_take, num, bol, txt, w8, w16, w32, w64, lst, cls, rowO, boxO, List.take_of_length_le, Wr.cellsL_len, wA, Wr.k_mk, Wr.n_mk, Wr.s_mk, Wr.l_mk, Wr.cellsL, Wr.z_eq, rnT, ftT, dtT]
       ·exact (decide_eq_true (by omega)).symm
      ·skip
       iterate 4 refine a_op ?_
       refine a_no ?_
       refine a_no ?_
       refine a_no ?_
       refine a_no ?_
       refine a_no ?_
       refine a_no ?_
       refine a_no ?_
       refine a_no ?_
       refine a_op ?_
       refine s_nil (r_false ?_)
       refine q_meetF (false) (a_le ?_) ?_
       ·refine le_of [(.r 0 0 0, .r 0 0 0), (.r 0 1 0, .r 0 1 0), (.r 0 2 0, .r 0 2 0), (.n 9, .n 9)] ?_ ?_ ?_ <;> simp [-List.map_set, -List.map_replicate, -List.reduceReplicate, -List.map_map, -List.map_drop, -List.map_take, num, bol, txt, w8, w16, w32, w64, lst, cls, rowO, boxO, List.take_of_length_le, Wr.cellsL_len, wA, Wr.k_mk, Wr.n_mk, Wr.s_mk, Wr.l_mk, Wr.cellsL, Wr.z_eq, rnT, ftT, dtT]
       ·exact (decide_eq_false (by omega)).symm
     ·intro b9 hb9
      refine a_st ?_
      refine a_if (fun hc3 => ?_) (fun hc3 => ?_)
      ·(try simp only [Bool.and_eq_true, Bool.or_eq_true, Bool.or_eq_false_iff, Bool.not_eq_true', Bool.not_eq_false', dec_t, dec_f, Bool.and_eq_false_imp, beq_iff_eq, beq_eq_false_iff_ne, ne_eq] at hc3)
       subst hc3
       have h3 := of_decide_eq_true hb9.symm
       have hq := do_none (s := s) (dev := dev) (o := o) h3.2 (hL0.trans (hge.2 h3.1))
       refine k_seq ?_
       refine k_region rfl ?_
       refine a_op ?_
       refine a_op ?_
       refine s_nil (r_false ?_)
       refine q_next ?_
       refine k_ret ?_
       refine q_seq_ret ?_
       refine ⟨.inr rfl, a_ret [] (by rw [results15]) ?_ ?_ ?_⟩ <;> simp [-List.map_set, -List.map_replicate, -List.reduceReplicate, -List.map_map, -List.map_drop, -List.map_take, num, bol, txt, w8, w16, w32, w64, lst, cls, rowO, boxO, List.take_of_length_le, Wr.cellsL_len, wA, Wr.k_mk, Wr.n_mk, Wr.s_mk, Wr.l_mk, Wr.cellsL, Wr.z_eq, rnT, ftT, dtT, hq, fts_len, rns_len, -List.length_flatMap]
      ·(try simp only [Bool.and_eq_true, Bool.or_eq_true, Bool.or_eq_false_iff, Bool.not_eq_true', Bool.not_eq_false', dec_t, dec_f, Bool.and_eq_false_imp, beq_iff_eq, beq_eq_false_iff_ne, ne_eq] at hc3)
       have hb0 : b9 = false := (by simpa using hc3)
       subst hb0
       have h3 := of_decide_eq_false hb9.symm
       refine k_skip ?_
       refine q_next ?_
       refine k_seq ?_
       refine k_region rfl ?_
       refine a_op ?_
       refine s_nil (r_false ?_)
       refine q_next ?_
       refine k_meetF (fun sl L (x : List (Int × Int) × List Ft) => ⟨setAll (setBad sl [0, 1, 2, 5, 7, 9, 10, 12, 13, 14, 15, 16, 17, 18, 19, 20, 21, 22, 23, 24, 25, 26, 27, 28, 29, 30, 31, 32, 33, 34, 35, 36, 37, 38, 39, 40, 41, 42, 43, 44, 45, 46, 47, 48, 49, 50, 51, 52, 53, 54, 55, 56, 57, 58, 59, 60, 61, 62, 63, 64, 65, 66, 67, 68, 69, 70, 71, 72, 73, 74, 75, 76, 77, 78, 79, 80, 81, 82, 83, 84, 85, 86, 87, 88, 89, 90, 91, 92, 93, 94, 95, 96, 97, 98, 99, 100, 101, 102, 103, 104, 105, 106, 107, 108, 109, 110, 111, 112, 113, 114, 115, 116, 117, 118, 119, 120, 121, 122, 123, 124, 125, 126, 127, 128, 129, 130, 131, 132, 133, 134, 135, 136, 137, 138, 139, 140, 141, 142, 143, 144, 145, 146, 147, 148, 149, 150, 151, 152, 153, 154, 155, 156, 157, 158, 159, 160, 161, 162, 163, 164, 165, 166, 167, 168, 169, 170, 171, 172]) [(8, .msl (.n 9) 0 x.1.length 2)], Go.Ot.look (putL (.n 10) (rowFt x.2) (putL (.r 14 0 0) (boxO 28 [.t (.v (.slice none 0 0)), .msl (.n 10) 0 x.2.length 6]) (putL (.n 9) (rowDt x.1) L)))⟩) (fun x => doF s dev o = endF s ⟨ofF x.1, x.2⟩ ∧ (∀ d ∈ x.1, d.1 < 4 ∧ d.2 ≤ ((M + 1 : Nat) : Int)) ∧ x.2.length ≤ 1 ∧ x.1.length ≤ 9001) ?_ ?_
       ·skip
        refine k_meetF (fun sl L (b5 : Bool) => ⟨setAll (setBad sl [0, 2, 7, 10, 13, 14, 15, 16, 17, 18, 19, 20, 21, 22, 23, 24, 25, 26, 27, 28, 29, 30, 31, 32, 33, 34, 35, 36, 37, 38, 39, 40, 41, 42, 43, 44, 45, 46, 47, 48, 49, 50, 51, 52, 53, 54, 55, 56, 57, 58, 59, 60, 61, 62, 63, 64, 65, 66, 67, 68, 69, 70, 71, 72, 73, 74, 75, 76, 77, 78, 79, 80, 81, 82, 83, 84, 85, 86, 87, 88, 89, 90, 91, 92, 93, 94, 95, 96, 97, 98, 99, 100, 101, 102, 103, 104, 105, 106, 107, 108, 109, 110, 111, 112, 113, 114, 115, 116, 117, 118, 119, 120, 121, 122, 123, 124, 125, 126, 127]) [(128, .t (bol b5))], Go.Ot.look (L)⟩) (fun b => b = decide (o.kind ≠ 3 ∧ o.kind ≠ 5)) ?_ ?_
        ·skip
         refine k_region rfl ?_
         rcases (show (o.kind ≠ 3 ∧ o.kind ≠ 5) ∨ o.kind = 3 ∨ o.kind = 5 by omega) with ⟨k1, k2⟩ | k1 | k1
         ·skip
          iterate 4 refine a_op ?_
          refine a_go ?_
          refine a_go ?_
          refine a_go ?_
          refine a_op ?_
          refine s_nil (r_false ?_)
          refine q_meetF (true) (a_le ?_) ?_
          ·refine le_of [(.r 0 0 0, .r 0 0 0), (.r 0 1 0, .r 0 1 0), (.r 0 2 0, .r 0 2 0), (.n 9, .n 9), (.r 14 0 0, .r 14 0 0)] ?_ ?_ ?_ <;> simp [-List.map_set, -List.map_replicate, -List.reduceReplicate, -List.map_map, -List.map_drop, -List.map_take, num, bol, txt, w8, w16, w32, w64, lst, cls, rowO, boxO, List.take_of_length_le, Wr.cellsL_len, wA, Wr.k_mk, Wr.n_mk, Wr.s_mk, Wr.l_mk, Wr.cellsL, Wr.z_eq, rnT, ftT, dtT]
          ·exact (decide_eq_true (by omega)).symm
         ·skip
          iterate 4 refine a_op ?_
          refine a_no ?_
          refine a_no ?_
          refine a_no ?_
          refine a_op ?_
          refine s_nil (r_false ?_)
          refine q_meetF (false) (a_le ?_) ?_
          ·refine le_of [(.r 0 0 0, .r 0 0 0), (.r 0 1 0, .r 0 1 0), (.r 0 2 0, .r 0 2 0), (.n 9, .n 9), (.r 14 0 0, .r 14 0 0)] ?_ ?_ ?_ <;> simp [-List.map_set, -List.map_replicate, -List.reduceReplicate, -List.map_map, -List.map_drop, -List.map_take, num, bol, txt, w8, w16, w32, w64, lst, cls, rowO, boxO, List.take_of_length_le, Wr.cellsL_len, wA, Wr.k_mk, Wr.n_mk, Wr.s_mk, Wr.l_mk, Wr.cellsL, Wr.z_eq, rnT, ftT, dtT]
          ·exact (decide_eq_false (by omega)).symm
         ·skip
          iterate 4 refine a_op ?_
          refine a_go ?_
          refine a_go ?_
          refine a_go ?_
          refine a_op ?_
          refine s_nil (r_false ?_)
          refine q_meetF (false) (a_le ?_) ?_
          ·refine le_of [(.r 0 0 0, .r 0 0 0), (.r 0 1 0, .r 0 1 0), (.r 0 2 0, .r 0 2 0), (.n 9, .n 9), (.r 14 0 0, .r 14 0 0)] ?_ ?_ ?_ <;> simp [-List.map_set, -List.map_replicate, -List.reduceReplicate, -List.map_map, -List.map_drop, -List.map_take, num, bol, txt, w8, w16, w32, w64, lst, cls, rowO, boxO, List.take_of_length_le, Wr.cellsL_len, wA, Wr.k_mk, Wr.n_mk, Wr.s_mk, Wr.l_mk, Wr.cellsL, Wr.z_eq, rnT, ftT, dtT]
          ·exact (decide_eq_false (by omega)).symm
        ·intro b5 hb5
         refine a_st ?_
         refine a_if (fun hc4 => ?_) (fun hc4 => ?_)
         ·(try simp only [Bool.and_eq_true, Bool.or_eq_true, Bool.or_eq_false_iff, Bool.not_eq_true', Bool.not_eq_false', dec_t, dec_f, Bool.and_eq_false_imp, beq_iff_eq, beq_eq_false_iff_ne, ne_eq] at hc4)
          subst hc4
          have h5 := of_decide_eq_true hb5.symm
          refine k_seq ?_
          refine k_region rfl ?_
          iterate 4 refine a_opd ?_
          refine a_calld [] false (last_good Γ s.seen dev (by omega)) ?_
          obtain ⟨la, hla⟩ : ∃ x, laF s.seen dev = x := ⟨_, rfl⟩
          have hlb : 0 ≤ la ∧ la ≤ M := by rw [← hla]; exact laF_le (by omega) (fun r hr => (hs.2 r hr).2)
          simp only [hla]
          iterate 11 refine a_opd ?_
          refine s_nil (r_true (by kernel_rfl) ?_)
          refine q_next ?_
          refine k_meetF (fun sl L (q : Ft) => ⟨setAll (setBad sl [0, 1, 2, 5, 7, 9, 10, 13, 14, 15, 16, 17, 18, 19, 20, 21, 22, 23, 24, 25, 26, 27, 28, 29, 30, 31, 32, 33, 34, 35, 36, 37, 38, 39, 40, 41, 42, 43, 44, 45, 46, 47, 48, 49, 50, 51, 52, 53, 54, 55, 56, 57, 58, 59, 60, 61, 62, 63, 64, 65, 66, 67, 68, 69, 70, 71, 72, 73, 74, 75, 76, 77, 78, 79, 80, 81, 82, 83, 84, 85, 86, 87, 88, 89, 90, 91, 92, 93, 94, 95, 96, 97, 98, 99, 100, 101, 102, 103, 104, 105, 106, 107, 108, 109, 110, 111, 112, 113, 114, 115, 116, 117, 118, 119, 120, 121, 122, 123, 124, 125, 126, 127, 128, 129, 130, 131, 132, 133, 134, 135, 136, 137, 138, 139, 140, 141, 142, 143, 144, 145, 146, 147, 148, 149]) [], Go.Ot.look (putL (.r 16 14 0) (boxO 42 [.t (num q.dev), .t (num q.n), .t (txt q.key), .t (num q.kind), .t (txt q.item), .t (num q.m)]) L)⟩) (fun q => newF s dev o (goL s dev o s.fs.length) = q ∧ q.dev = dev ∧ q.n = la + 1 ∧ (q.m = 0 ∨ q.m = su)) ?_ ?_
          ·skip
           refine k_seq ?_
           refine k_region rfl ?_
           iterate 3 refine a_op ?_
           refine s_nil (r_false ?_)
           refine q_next ?_
           refine a_if (fun hc5 => ?_) (fun hc5 => ?_)
           ·(try simp only [Bool.and_eq_true, Bool.or_eq_true, Bool.or_eq_false_iff, Bool.not_eq_true', Bool.not_eq_false', dec_t, dec_f, Bool.and_eq_false_imp, beq_iff_eq, beq_eq_false_iff_ne, ne_eq] at hc5)
            refine k_seq ?_
            refine k_region rfl ?_
            refine a_op ?_
            refine a_op ?_
            refine s_nil (r_false ?_)
            refine q_next ?_
            refine k_seq ?_
            refine k_region rfl ?_
            refine a_op ?_
            refine a_op ?_
            refine s_nil (r_false ?_)
            refine q_next ?_
            refine k_region rfl ?_
            iterate 3 refine a_op ?_
            refine s_nil (r_false ?_)
            refine q_meetF (⟨dev, la + 1, o.key, 3, [], su⟩) (a_le ?_) ?_
            ·refine le_of [(.r 0 0 0, .r 0 0 0), (.r 0 1 0, .r 0 1 0), (.r 0 2 0, .r 0 2 0), (.n 9, .n 9), (.r 14 0 0, .r 14 0 0), (.r 16 14 0, .r 16 14 0)] ?_ ?_ ?_ <;> simp [-List.map_set, -List.map_replicate, -List.reduceReplicate, -List.map_map, -List.map_drop, -List.map_take, num, bol, txt, w8, w16, w32, w64, lst, cls, rowO, boxO, List.take_of_length_le, Wr.cellsL_len, wA, Wr.k_mk, Wr.n_mk, Wr.s_mk, Wr.l_mk, Wr.cellsL, Wr.z_eq, rnT, ftT, dtT]
            ·exact ⟨by rw [hL0, newF_4 (by omega), hla, hsu], rfl, rfl, .inr rfl⟩
           ·(try simp only [Bool.and_eq_true, Bool.or_eq_true, Bool.or_eq_false_iff, Bool.not_eq_true', Bool.not_eq_false', dec_t, dec_f, Bool.and_eq_false_imp, beq_iff_eq, beq_eq_false_iff_ne, ne_eq] at hc5)
            refine k_skip ?_
            refine q_meetF (⟨dev, la + 1, o.key, o.kind, o.item, 0⟩) (a_le ?_) ?_
            ·refine le_of [(.r 0 0 0, .r 0 0 0), (.r 0 1 0, .r 0 1 0), (.r 0 2 0, .r 0 2 0), (.n 9, .n 9), (.r 14 0 0, .r 14 0 0), (.r 16 14 0, .r 16 14 0)] ?_ ?_ ?_ <;> simp [-List.map_set, -List.map_replicate, -List.reduceReplicate, -List.map_map, -List.map_drop, -List.map_take, num, bol, txt, w8, w16, w32, w64, lst, cls, rowO, boxO, List.take_of_length_le, Wr.cellsL_len, wA, Wr.k_mk, Wr.n_mk, Wr.s_mk, Wr.l_mk, Wr.cellsL, Wr.z_eq, rnT, ftT, dtT]
            ·exact ⟨by rw [hL0, newF_n (by omega), hla], rfl, rfl, .inl rfl⟩
          ·intro q hq0
           obtain ⟨hnf, q1, q2, q3⟩ := hq0
           refine a_st ?_
           refine k_seq ?_
           refine k_meetF (fun sl L (b6 : Bool) => ⟨setAll (setBad sl [0, 1, 2, 5, 7, 9, 10, 13, 14, 15, 16, 17, 18, 19, 20, 21, 22, 23, 24, 25, 26, 27, 28, 29, 30, 31, 32, 33, 34, 35, 36, 37, 38, 39, 40, 41, 42, 43, 44, 45, 46, 47, 48, 49, 50, 51, 52, 53, 54, 55, 56, 57, 58, 59, 60, 61, 62, 63, 64, 65, 66, 67, 68, 69, 70, 71, 72, 73, 74, 75, 76, 77, 78, 79, 80, 81, 82, 83, 84, 85, 86, 87, 88, 89, 90, 91, 92, 93, 94, 95, 96, 97, 98, 99, 100, 101, 102, 103, 104, 105, 106, 107, 108, 109, 110, 111, 112, 113, 114, 115, 116, 117, 118, 119, 120, 121, 122, 123, 124, 125, 126, 127, 128, 129, 130, 131, 132, 133, 134, 135, 136, 137, 138, 139, 140, 141, 142, 143, 144, 145, 146, 147, 148, 149, 150, 151, 152, 153, 154, 155, 156, 157, 158, 159, 160, 161, 162]) [(163, .t (bol b6))], Go.Ot.look (L)⟩) (fun b => b = decide (q.m < -1099511627776 ∨ 1099511627776 < q.m)) ?_ ?_
           ·skip
            refine k_region rfl ?_
            rcases (show q.m < -1099511627776 ∨ (-1099511627776 ≤ q.m ∧ 1099511627776 < q.m) ∨ (-1099511627776 ≤ q.m ∧ q.m ≤ 1099511627776) by omega) with g5 | ⟨g5, g6⟩ | ⟨g5, g6⟩
            ·skip
             iterate 5 refine a_op ?_
             refine a_go ?_
             refine a_go ?_
             refine a_go ?_
             refine a_op ?_
             refine a_op ?_
             refine a_no ?_
             refine a_no ?_
             refine a_no ?_
             refine a_op ?_
             refine s_nil (r_false ?_)
             refine q_meetF (true) (a_le ?_) ?_
             ·refine le_of [(.r 0 0 0, .r 0 0 0), (.r 0 1 0, .r 0 1 0), (.r 0 2 0, .r 0 2 0), (.n 9, .n 9), (.r 14 0 0, .r 14 0 0), (.r 16 14 0, .r 16 14 0)] ?_ ?_ ?_ <;> simp [-List.map_set, -List.map_replicate, -List.reduceReplicate, -List.map_map, -List.map_drop, -List.map_take, num, bol, txt, w8, w16, w32, w64, lst, cls, rowO, boxO, List.take_of_length_le, Wr.cellsL_len, wA, Wr.k_mk, Wr.n_mk, Wr.s_mk, Wr.l_mk, Wr.cellsL, Wr.z_eq, rnT, ftT, dtT]
             ·exact (decide_eq_true (by omega)).symm
            ·skip
             iterate 5 refine a_op ?_
             refine a_go ?_
             refine a_go ?_
             refine a_go ?_
             refine a_op ?_
             refine a_op ?_
             refine a_go ?_
             refine a_go ?_
             refine a_go ?_
             refine a_op ?_
             refine s_nil (r_false ?_)
             refine q_meetF (true) (a_le ?_) ?_
             ·refine le_of [(.r 0 0 0, .r 0 0 0), (.r 0 1 0, .r 0 1 0), (.r 0 2 0, .r 0 2 0), (.n 9, .n 9), (.r 14 0 0, .r 14 0 0), (.r 16 14 0, .r 16 14 0)] ?_ ?_ ?_ <;> simp [-List.map_set, -List.map_replicate, -List.reduceReplicate, -List.map_map, -List.map_drop, -List.map_take, num, bol, txt, w8, w16, w32, w64, lst, cls, rowO, boxO, List.take_of_length_le, Wr.cellsL_len, wA, Wr.k_mk, Wr.n_mk, Wr.s_mk, Wr.l_mk, Wr.cellsL, Wr.z_eq, rnT, ftT, dtT]
             ·exact (decide_eq_true (by omega)).symm
            ·skip
             iterate 5 refine a_op ?_
             refine a_go ?_
             refine a_go ?_
             refine a_go ?_
             refine a_op ?_
             refine a_op ?_
             refine a_go ?_
             refine a_go ?_
             refine a_go ?_
             refine a_op ?_
             refine s_nil (r_false ?_)
             refine q_meetF (false) (a_le ?_) ?_
             ·refine le_of [(.r 0 0 0, .r 0 0 0), (.r 0 1 0, .r 0 1 0), (.r 0 2 0, .r 0 2 0), (.n 9, .n 9), (.r 14 0 0, .r 14 0 0), (.r 16 14 0, .r 16 14 0)] ?_ ?_ ?_ <;> simp [-List.map_set, -List.map_replicate, -List.reduceReplicate, -List.map_map, -List.map_drop, -List.map_take, num, bol, txt, w8, w16, w32, w64, lst, cls, rowO, boxO, List.take_of_length_le, Wr.cellsL_len, wA, Wr.k_mk, Wr.n_mk, Wr.s_mk, Wr.l_mk, Wr.cellsL, Wr.z_eq, rnT, ftT, dtT]
             ·exact (decide_eq_false (by omega)).symm
           ·intro b6 hb6
            refine a_st ?_
            refine a_if (fun hc6 => ?_) (fun hc6 => ?_)
            ·(try simp only [Bool.and_eq_true, Bool.or_eq_true, Bool.or_eq_false_iff, Bool.not_eq_true', Bool.not_eq_false', dec_t, dec_f, Bool.and_eq_false_imp, beq_iff_eq, beq_eq_false_iff_ne, ne_eq] at hc6)
             subst hc6
             have h6 := of_decide_eq_true hb6.symm
             have hq := do_big (by omega) hnf (by omega)
             refine k_seq ?_
             refine k_region rfl ?_
             refine a_op ?_
             refine a_op ?_
             refine s_nil (r_false ?_)
             refine q_next ?_
             refine k_ret ?_
             refine q_seq_ret (q_meetF_ret ?_)
             refine ⟨.inr rfl, a_ret [] (by rw [results15]) ?_ ?_ ?_⟩ <;> simp [-List.map_set, -List.map_replicate, -List.reduceReplicate, -List.map_map, -List.map_drop, -List.map_take, num, bol, txt, w8, w16, w32, w64, lst, cls, rowO, boxO, List.take_of_length_le, Wr.cellsL_len, wA, Wr.k_mk, Wr.n_mk, Wr.s_mk, Wr.l_mk, Wr.cellsL, Wr.z_eq, rnT, ftT, dtT, hq, fts_len, rns_len, -List.length_flatMap]
            ·(try simp only [Bool.and_eq_true, Bool.or_eq_true, Bool.or_eq_false_iff, Bool.not_eq_true', Bool.not_eq_false', dec_t, dec_f, Bool.and_eq_false_imp, beq_iff_eq, beq_eq_false_iff_ne, ne_eq] at hc6)
             have hb0 : b6 = false := (by simpa using hc6)
             subst hb0
             have h6 := of_decide_eq_false hb6.symm
             refine k_skip ?_
             refine q_next ?_
             refine k_seq ?_
             refine k_region rfl ?_
             iterate 6 refine a_op ?_
             refine s_nil (r_false ?_)
             refine q_next ?_
             refine k_region rfl ?_
             iterate 4 refine a_op ?_
             refine s_nil (r_false ?_)
             refine q_meetF ((G ++ [(dev, q.n)], [q])) (a_le ?_) ?_
             ·refine le_of [(.r 0 0 0, .r 0 0 0), (.r 0 1 0, .r 0 1 0), (.r 0 2 0, .r 0 2 0), (.n 9, .n 9), (.r 14 0 0, .r 14 0 0), (.n 10, .r 24 1 0)] ?_ ?_ ?_ <;> simp [-List.map_set, -List.map_replicate, -List.reduceReplicate, -List.map_map, -List.map_drop, -List.map_take, num, bol, txt, w8, w16, w32, w64, lst, cls, rowO, boxO, List.take_of_length_le, Wr.cellsL_len, wA, Wr.k_mk, Wr.n_mk, Wr.s_mk, Wr.l_mk, Wr.cellsL, Wr.z_eq, rnT, ftT, dtT, rowFt, rowDt, q1, List.flatMap_append, List.map_append, dtT, ftT]
             ·exact ⟨do_new (s := s) (dev := dev) (o := o) (by omega) hnf (by omega) |>.trans (by rw [hL0, hG]), dt_in1 (M := M + 1) (a := dev) (b := q.n) hin h4 (by omega), by simp, by simp; omega⟩
         ·(try simp only [Bool.and_eq_true, Bool.or_eq_true, Bool.or_eq_false_iff, Bool.not_eq_true', Bool.not_eq_false', dec_t, dec_f, Bool.and_eq_false_imp, beq_iff_eq, beq_eq_false_iff_ne, ne_eq] at hc4)
          have hb0 : b5 = false := (by simpa using hc4)
          subst hb0
          have h5 := of_decide_eq_false hb5.symm
          refine k_skip ?_
          refine q_meetF ((G, [])) (a_le ?_) ?_
          ·refine le_of [(.r 0 0 0, .r 0 0 0), (.r 0 1 0, .r 0 1 0), (.r 0 2 0, .r 0 2 0), (.n 9, .n 9), (.r 14 0 0, .r 14 0 0)] ?_ ?_ ?_ <;> simp [-List.map_set, -List.map_replicate, -List.reduceReplicate, -List.map_map, -List.map_drop, -List.map_take, num, bol, txt, w8, w16, w32, w64, lst, cls, rowO, boxO, List.take_of_length_le, Wr.cellsL_len, wA, Wr.k_mk, Wr.n_mk, Wr.s_mk, Wr.l_mk, Wr.cellsL, Wr.z_eq, rnT, ftT, dtT, rowFt, rowDt, rowFt]
          ·exact ⟨do_del (s := s) (dev := dev) (o := o) (by omega) (by rw [hL0]; intro h; have := hge.1 h; omega) |>.trans (by rw [hL0, hG]), hin, by simp, by simp; omega⟩
       ·rintro ⟨Dt, Fs⟩ ⟨hx1, hx2, hx3, hx4⟩
        dsimp only at hx1 hx2 hx3 hx4 ⊢
        refine a_st ?_
        refine k_seq ?_
        refine k_region rfl ?_
        obtain ⟨O, hO⟩ : ∃ x, ofF Dt = x := ⟨_, rfl⟩
        have hOl := of_small1 (M := M + 1) (by omega) hx2
        have hOr := (ofF_mr Dt).1
        rw [hO] at hx1 hOl hOr
        have hof := of_small (M := M + 1) (by omega) hx2
        refine a_op ?_
        refine a_call [.n 9] true (of_good Γ Dt (by omega) hof) ?_ (hv := by (simp (disch := first | omega | (simp only [List.length_drop, List.length_take, List.length_map, List.length_append, List.length_cons, List.length_nil, List.length_replicate, List.length_set] <;> omega) | fail) [-List.map_map, -List.map_drop, -List.map_take, VwL_cons, VwL_nil, Vw_bad, Vw_t, Vw_ptr, Vw_msl, Vw_rop, Vw_agg, Vw_tup, Vw_ifc, VwT_refl, VwL_refl_map, Vw_nilmsl, VwT_msl, VwT_agg, VwT_v, VwT_nil, VwTs_cons, VwTs_nil, VwTs_refl, VwTs_app, List.take_of_length_le, srcL, notIn, ObsVw, SrcOk, pOk, Go.Ot.look, resP, resN, ev, evc, mkS, push_cast, List.take_of_length_le, dt_all (l := Dt) rfl, dts_len, -List.length_flatMap] <;> (try omega)))
        simp only [hO]
        refine a_op ?_
        refine a_op ?_
        refine s_nil (r_false ?_)
        refine q_next ?_
        refine k_seq ?_
        refine k_seq ?_
        refine k_region rfl ?_
        rcases (show 400 < (joF s ⟨O, Fs⟩).fs.length ∨ ¬ 400 < (joF s ⟨O, Fs⟩).fs.length by omega) with g7 | g7
        ·have hq := hx1.trans (end_big g7)
         refine a_op ?_
         refine a_op ?_
         refine a_call [.n 10] true (join_good Γ s ⟨O, Fs⟩ (by omega) hOl hs.1.1 hOr (by omega) (by (try simp only []); omega)) ?_ (hv := by (simp (disch := first | omega | (simp only [List.length_drop, List.length_take, List.length_map, List.length_append, List.length_cons, List.length_nil, List.length_replicate, List.length_set] <;> omega) | fail) [-List.map_map, -List.map_drop, -List.map_take, VwL_cons, VwL_nil, Vw_bad, Vw_t, Vw_ptr, Vw_msl, Vw_rop, Vw_agg, Vw_tup, Vw_ifc, VwT_refl, VwL_refl_map, Vw_nilmsl, VwT_msl, VwT_agg, VwT_v, VwT_nil, VwTs_cons, VwTs_nil, VwTs_refl, VwTs_app, List.take_of_length_le, srcL, notIn, ObsVw, SrcOk, pOk, Go.Ot.look, resP, resN, ev, evc, mkS, push_cast, List.take_of_length_le, ft_all (l := Fs) rfl, fts_len, -List.length_flatMap] <;> (try omega)))
         iterate 3 refine a_op ?_
         refine s_nil (r_false ?_)
         refine q_next ?_
         refine a_true ?_
         refine k_seq ?_
         refine k_region rfl ?_
         refine a_op ?_
         refine a_op ?_
         refine s_nil (r_false ?_)
         refine q_next ?_
         refine k_ret ?_
         refine q_seq_ret ?_
         refine ⟨.inr rfl, a_ret [] (by rw [results15]) ?_ ?_ ?_⟩ <;> simp [-List.map_set, -List.map_replicate, -List.reduceReplicate, -List.map_map, -List.map_drop, -List.map_take, num, bol, txt, w8, w16, w32, w64, lst, cls, rowO, boxO, List.take_of_length_le, Wr.cellsL_len, wA, Wr.k_mk, Wr.n_mk, Wr.s_mk, Wr.l_mk, Wr.cellsL, Wr.z_eq, rnT, ftT, dtT, hq, fts_len, rns_len, -List.length_flatMap]
        ·have hq := hx1.trans (end_ok g7)
         refine a_op ?_
         refine a_op ?_
         refine a_call [.n 10] true (join_good Γ s ⟨O, Fs⟩ (by omega) hOl hs.1.1 hOr (by omega) (by (try simp only []); omega)) ?_ (hv := by (simp (disch := first | omega | (simp only [List.length_drop, List.length_take, List.length_map, List.length_append, List.length_cons, List.length_nil, List.length_replicate, List.length_set] <;> omega) | fail) [-List.map_map, -List.map_drop, -List.map_take, VwL_cons, VwL_nil, Vw_bad, Vw_t, Vw_ptr, Vw_msl, Vw_rop, Vw_agg, Vw_tup, Vw_ifc, VwT_refl, VwL_refl_map, Vw_nilmsl, VwT_msl, VwT_agg, VwT_v, VwT_nil, VwTs_cons, VwTs_nil, VwTs_refl, VwTs_app, List.take_of_length_le, srcL, notIn, ObsVw, SrcOk, pOk, Go.Ot.look, resP, resN, ev, evc, mkS, push_cast, List.take_of_length_le, ft_all (l := Fs) rfl, fts_len, -List.length_flatMap] <;> (try omega)))
         iterate 3 refine a_op ?_
         refine s_nil (r_false ?_)
         refine q_next ?_
         refine a_false ?_
         refine k_skip ?_
         refine q_next ?_
         refine k_seq ?_
         refine k_region rfl ?_
         iterate 3 refine a_op ?_
         refine s_nil (r_false ?_)
         refine q_next ?_
         refine k_ret ?_
         refine ⟨.inr rfl, a_ret [] (by rw [results15]) ?_ ?_ ?_⟩ <;> simp [-List.map_set, -List.map_replicate, -List.reduceReplicate, -List.map_map, -List.map_drop, -List.map_take, num, bol, txt, w8, w16, w32, w64, lst, cls, rowO, boxO, List.take_of_length_le, Wr.cellsL_len, wA, Wr.k_mk, Wr.n_mk, Wr.s_mk, Wr.l_mk, Wr.cellsL, Wr.z_eq, rnT, ftT, dtT, hq, fts_len, rns_len, -List.length_flatMap]

end Go.Proofs.Tryd
