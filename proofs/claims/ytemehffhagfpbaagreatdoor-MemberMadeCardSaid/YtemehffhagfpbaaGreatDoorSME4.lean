/- Contracts of this program's functions. -/
import Derived.Test.YtemehffhagfpbaaGreatDoorSME3
set_option maxHeartbeats 4000000
set_option maxRecDepth 100000
set_option linter.unusedVariables false
set_option linter.unusedSimpArgs false
namespace Go.Proofs.Tryz
open Go Go.Ot

def part (W : Wr) (i : Nat) : Wr := W.l.getD i Wr.z
theorem may_tx : ∀ (d : Nat) (x : Wr), mayW d x = true → 5 + x.s.length ≤ (putW d x).length := by
 have key : ∀ (deep : Bool) (sub : Wr → Bool) (put : Wr → List UInt8) (x : Wr), mayS deep sub x = true → 5 + x.s.length ≤ (putS put x).length := by
  intro deep sub put x hm
  cases x with
  | mk k n s l =>
   rw [Wr.s_mk]
   rcases mayS_k hm with rfl | ⟨rfl, hs⟩ | ⟨rfl, hl, hml⟩
   ·rw [mayS_1] at hm
    simp only [Bool.and_eq_true, beq_iff_eq] at hm
    rw [hm.1, putS_1, List.length_cons, nb_len]; simp
   ·rw [putS_2, List.length_cons, List.length_append, nb_len]; omega
   ·rw [mayS_3] at hm
    simp only [Bool.and_eq_true, beq_iff_eq] at hm
    rw [hm.1.1.2, putS_3, List.length_cons, List.length_append, nb_len]; simp
 intro d x h
 cases d with
 | zero => rw [putW_z]; rw [mayW_z] at h; exact key _ _ _ x h
 | succ d => rw [putW_s]; rw [mayW_s] at h; exact key _ _ _ x h
theorem wTs_le (d : Nat) : ∀ l : List Wr, (∀ x ∈ l, mayW d x = true) → tsz (wTs l) ≤ (l.flatMap (putW d)).length
 | [], _ => by simp [tsz, wTs]
 | x :: l, h => by
  have h1 := may_tx d x (h x (by simp))
  have h2 := wTs_le d l (fun y hy => h y (by simp [hy]))
  simp only [tsz, wTs, List.map_cons, List.sum_cons, List.flatMap_cons, List.length_append] at h2 ⊢
  omega
theorem kids_le {d : Nat} {k n : Int} {s : List UInt8} {l : List Wr} (h : mayW (d + 1) (.mk k n s l) = true) : (∀ x ∈ l, mayW d x = true) ∧ (l.flatMap (putW d)).length ≤ (putW (d + 1) (.mk k n s l)).length := by
 rw [mayW_s] at h
 rcases mayS_k h with rfl | ⟨rfl, hs⟩ | ⟨rfl, hl, hml⟩
 ·rw [mayS_1] at h
  simp only [Bool.and_eq_true, decide_eq_true_eq] at h
  have : l = [] := List.eq_nil_of_length_eq_zero h.2
  subst this
  exact ⟨(fun x hx => by cases hx), by simp⟩
 ·rw [mayS_2] at h
  simp only [Bool.and_eq_true, decide_eq_true_eq] at h
  have : l = [] := List.eq_nil_of_length_eq_zero h.1.2
  subst this
  exact ⟨(fun x hx => by cases hx), by simp⟩
 ·exact ⟨hml, by rw [putW_s, putS_3, List.length_cons, List.length_append, nb_len]; omega⟩
theorem mem_flat {f : Wr → List UInt8} {l : List Wr} {x : Wr} (h : x ∈ l) : (f x).length ≤ (l.flatMap f).length := by
 induction l with
 | nil => cases h
 | cons a l ih =>
  simp only [List.flatMap_cons, List.length_append]
  rcases List.mem_cons.1 h with rfl | h
  ·omega
  ·have := ih h; omega
theorem part_texts {s : List UInt8} {W : Wr} (h : got s = some W) (i : Nat) : tsz (wTs (part W i).l) ≤ s.length := by
 obtain ⟨h1, _, h2⟩ := got_get h
 rw [part, List.getD_eq_getElem?_getD]
 cases e : W.l[i]? with
 | none => simp [Wr.z_eq, Wr.l_mk, tsz, wTs]
 | some x =>
  rw [Option.getD_some]
  have hx := List.mem_of_getElem? e
  cases W with
  | mk k n s' l =>
   obtain ⟨h3, h4⟩ := kids_le (d := 5) h1
   have hx : x ∈ l := hx
   have h5 := mem_flat (f := putW 5) hx
   cases x with
   | mk k' n' s'' l' =>
    obtain ⟨h6, h7⟩ := kids_le (d := 4) (h3 _ hx)
    have h8 := wTs_le 4 l' h6
    have h4 : (l.flatMap (putW 5)).length ≤ (putW 6 (.mk k n s' l)).length := h4
    have h7 : (l'.flatMap (putW 4)).length ≤ (putW 5 (.mk k' n' s'' l')).length := h7
    rw [Wr.l_mk, h2]
    omega
theorem tsz_len : ∀ l : List (List UInt8), 5 * l.length ≤ tsz l
 | [] => by simp [tsz]
 | a :: l => by have := tsz_len l; simp only [tsz, List.map_cons, List.sum_cons, List.length_cons] at this ⊢; omega
theorem rget_good (Γ : Gl) (hE : EG Γ) (s : List UInt8) (hs : s.length ≤ 1000000) : Go.Ot.Good Γ prog 10 [.t (txt s)] [] (match RG s with | some r => .tup [.agg [.t (num r.seq), .t (txt r.prev), .t (num r.kind), .t (num r.dev), .t (.sl r.wraps.length (r.wraps.flatMap wpT)), .t (txt r.tag)], .t (bol true)] | none => .tup [.agg [.t (num 0), .t (txt []), .t (num 0), .t (num 0), .t (.v (.slice none 0 0)), .t (txt [])], .t (bol false)]) [] [] := by
 rcases hg : got s with _ | W
 ·rw [RG_no hg]; exact rget_no Γ hE s hs hg
 ·by_cases h6 : W.l.length = 6
  ·obtain ⟨a, b, c, d, f, g, hl⟩ := six_of h6
   refine rget_six Γ hE s hs W a b c d f g hg hl ?_
   have h1 := part_texts hg 4
   have h2 := tsz_len (wTs (part W 4).l)
   have e : part W 4 = f := by rw [part, hl]; rfl
   rw [e, wTs_len] at h2
   rw [e] at h1
   omega
  ·rw [RG_no6 hg h6]; exact rget_no6 Γ hE s hs W hg h6
@[simp] theorem Vw_ropp {src : Nm → Option Nm} {hp : Nm → Option Ob} {len : Nm → Prop} {cs : List T} {m : Nm} {off : Nat} : Vw src hp len (.rop cs) (.ptr m off) ↔ len m ∧ ∃ ob, hp m = some ob ∧ VwTs hp len cs ((ob.cells.drop off).take cs.length) := by
 constructor
 ·rintro (h | ⟨m', off', ob, h, h1, h2, h3⟩)
  ·cases h
  ·cases h; exact ⟨h1, ob, h2, h3⟩
 ·rintro ⟨h1, ob, h2, h3⟩; exact .inr ⟨m, off, ob, rfl, h1, h2, h3⟩
/-! ### members, one behind the other -/
def fl (l : List Int) (d : Int) : List Int := l.filter (fun x => decide (x ≠ d))
def inF (log : List Rc) : Nat → List Int
 | 0 => []
 | i + 1 => if (log.getD i default).kind = 1 then inF log i ++ [(log.getD i default).dev] else fl (inF log i) (log.getD i default).dev
theorem inF_0 (log : List Rc) : inF log 0 = [] := rfl
theorem inF_add {log : List Rc} {i : Nat} (h : (log.getD i default).kind = 1) : inF log (i + 1) = inF log i ++ [(log.getD i default).dev] := if_pos h
theorem inF_del {log : List Rc} {i : Nat} (h : (log.getD i default).kind ≠ 1) : inF log (i + 1) = fl (inF log i) (log.getD i default).dev := if_neg h
theorem inF_len (log : List Rc) : ∀ i, (inF log i).length ≤ i
 | 0 => Nat.le_refl _
 | i + 1 => by
  have ih := inF_len log i
  rw [inF]
  split
  ·simp; omega
  ·exact Nat.le_trans (List.length_filter_le _ _) (by omega)
def prevF (log : List Rc) : Nat → List UInt8
 | 0 => []
 | k + 1 => hsh (log.getD k default)
/-- What is wrong with a record of a chain: 1 form, 2 link, 3 role. -/
def chC (log : List Rc) (l : List Int) (i : Nat) : Nat :=
 if ¬ rcP (log.getD i default) then 1 else if ¬ ((log.getD i default).seq = i + 1 ∧ (log.getD i default).prev = prevF log i) then 2
 else if (i = 0 ∧ ((log.getD i default).kind ≠ 1 ∨ (log.getD i default).dev ≠ 0)) ∨ ((log.getD i default).kind = 2 ∧ (log.getD i default).dev = 0) ∨ l.contains (log.getD i default).dev ≠ decide ((log.getD i default).kind = 2) then 3 else 0
theorem chC_1 {log : List Rc} {l : List Int} {i : Nat} {r : Rc} (hr : log.getD i default = r) (h : ¬ rcP r) : chC log l i = 1 := by rw [chC, hr, if_pos h]
theorem chC_2 {log : List Rc} {l : List Int} {i : Nat} {r : Rc} (hr : log.getD i default = r) (h : rcP r) (h2 : ¬ (r.seq = i + 1 ∧ r.prev = prevF log i)) : chC log l i = 2 := by rw [chC, hr, if_neg (fun hn => hn h), if_pos h2]
theorem chC_3 {log : List Rc} {l : List Int} {i : Nat} {r : Rc} (hr : log.getD i default = r) (h : rcP r) (h2 : r.seq = i + 1 ∧ r.prev = prevF log i) (h3 : (i = 0 ∧ (r.kind ≠ 1 ∨ r.dev ≠ 0)) ∨ (r.kind = 2 ∧ r.dev = 0) ∨ l.contains r.dev ≠ decide (r.kind = 2)) : chC log l i = 3 := by rw [chC, hr, if_neg (fun hn => hn h), if_neg (fun hn => hn h2), if_pos h3]
theorem chC_0 {log : List Rc} {l : List Int} {i : Nat} {r : Rc} (hr : log.getD i default = r) (h : rcP r) (h2 : r.seq = i + 1 ∧ r.prev = prevF log i) (h3 : ¬ ((i = 0 ∧ (r.kind ≠ 1 ∨ r.dev ≠ 0)) ∨ (r.kind = 2 ∧ r.dev = 0) ∨ l.contains r.dev ≠ decide (r.kind = 2))) : chC log l i = 0 := by rw [chC, hr, if_neg (fun hn => hn h), if_neg (fun hn => hn h2), if_neg h3]
theorem chC_ok {log : List Rc} {l : List Int} {i : Nat} (h : chC log l i = 0) : rcP (log.getD i default) ∧ ((log.getD i default).seq = i + 1 ∧ (log.getD i default).prev = prevF log i) ∧ ¬ ((i = 0 ∧ ((log.getD i default).kind ≠ 1 ∨ (log.getD i default).dev ≠ 0)) ∨ ((log.getD i default).kind = 2 ∧ (log.getD i default).dev = 0) ∨ l.contains (log.getD i default).dev ≠ decide ((log.getD i default).kind = 2)) := by
 by_cases h1 : rcP (log.getD i default)
 ·by_cases h2 : (log.getD i default).seq = i + 1 ∧ (log.getD i default).prev = prevF log i
  ·refine ⟨h1, h2, fun h3 => ?_⟩
   rw [chC_3 rfl h1 h2 h3] at h; omega
  ·rw [chC_2 rfl h1 h2] at h; omega
 ·rw [chC_1 rfl h1] at h; omega
theorem chC_cases (log : List Rc) (l : List Int) (i : Nat) : chC log l i = 0 ∨ chC log l i = 1 ∨ chC log l i = 2 ∨ chC log l i = 3 := by
 by_cases h1 : rcP (log.getD i default)
 ·by_cases h2 : (log.getD i default).seq = i + 1 ∧ (log.getD i default).prev = prevF log i
  ·by_cases h3 : (i = 0 ∧ ((log.getD i default).kind ≠ 1 ∨ (log.getD i default).dev ≠ 0)) ∨ ((log.getD i default).kind = 2 ∧ (log.getD i default).dev = 0) ∨ l.contains (log.getD i default).dev ≠ decide ((log.getD i default).kind = 2)
   ·exact .inr (.inr (.inr (chC_3 rfl h1 h2 h3)))
   ·exact .inl (chC_0 rfl h1 h2 h3)
  ·exact .inr (.inr (.inl (chC_2 rfl h1 h2)))
 ·exact .inr (.inl (chC_1 rfl h1))
def lkT (i : Int) : Nat → T
 | 0 => .v .nilIface
 | 1 => .ifc 62 (.agg [num i, .ifc 44 (txt [110, 111, 32, 114, 101, 99, 111, 114, 100])])
 | 2 => .ifc 62 (.agg [num i, .ifc 44 (txt [97, 110, 111, 116, 104, 101, 114, 32, 114, 101, 99, 111, 114, 100, 32, 97, 104, 101, 97, 100])])
 | _ => .ifc 62 (.agg [num i, .ifc 44 (txt [97, 32, 109, 101, 109, 98, 101, 114, 32, 116, 104, 97, 116, 32, 105, 115, 32, 110, 111, 110, 101, 44, 32, 111, 114, 32, 110, 111, 110, 101, 32, 116, 104, 97, 116, 32, 105, 115, 32, 111, 110, 101])])
@[push_cast] theorem lkT_0 (i : Int) : lkT i 0 = .v .nilIface := rfl
@[push_cast] theorem lkT_1 (i : Int) : lkT i 1 = .ifc 62 (.agg [num i, .ifc 44 (txt [110, 111, 32, 114, 101, 99, 111, 114, 100])]) := rfl
@[push_cast] theorem lkT_2 (i : Int) : lkT i 2 = .ifc 62 (.agg [num i, .ifc 44 (txt [97, 110, 111, 116, 104, 101, 114, 32, 114, 101, 99, 111, 114, 100, 32, 97, 104, 101, 97, 100])]) := rfl
@[push_cast] theorem lkT_3 (i : Int) : lkT i 3 = .ifc 62 (.agg [num i, .ifc 44 (txt [97, 32, 109, 101, 109, 98, 101, 114, 32, 116, 104, 97, 116, 32, 105, 115, 32, 110, 111, 110, 101, 44, 32, 111, 114, 32, 110, 111, 110, 101, 32, 116, 104, 97, 116, 32, 105, 115, 32, 111, 110, 101])]) := rfl
/-- Are records a chain? -/
def ckB (log : List Rc) : Bool := decide (log.length ≤ 40) && (List.range log.length).all fun i => chC log (inF log i) i == 0
theorem ckB_long {log : List Rc} (h : 40 < log.length) : ckB log = false := by rw [ckB, decide_eq_false (by omega)]; rfl
theorem ckB_no {log : List Rc} {i : Nat} (hi : i < log.length) (h : chC log (inF log i) i ≠ 0) : ckB log = false := by
 rcases e : ckB log with _ | _
 ·rfl
 ·rw [ckB, Bool.and_eq_true, List.all_eq_true] at e
  have := e.2 i (List.mem_range.2 hi)
  exact absurd (by simpa using this) h
theorem ckB_yes {log : List Rc} (h40 : log.length ≤ 40) (h : ∀ i, i < log.length → chC log (inF log i) i = 0) : ckB log = true := by
 rw [ckB, Bool.and_eq_true, List.all_eq_true]
 exact ⟨decide_eq_true h40, fun i hi => by simpa using h i (List.mem_range.1 hi)⟩
theorem ckB_ok {log : List Rc} (h : ckB log = true) : log.length ≤ 40 ∧ ∀ i, i < log.length → chC log (inF log i) i = 0 := by
 rw [ckB, Bool.and_eq_true, List.all_eq_true] at h
 exact ⟨of_decide_eq_true h.1, fun i hi => by simpa using h.2 i (List.mem_range.2 hi)⟩
/-! ### a row from which a number is taken -/
theorem fl_snoc (l : List Int) (d : Int) {j : Nat} (h : j < l.length) : fl (l.take (j + 1)) d = if l.getD j 0 ≠ d then fl (l.take j) d ++ [l.getD j 0] else fl (l.take j) d := by
 have e : l.getD j 0 = l[j] := by simp [List.getD_eq_getElem?_getD, List.getElem?_eq_getElem h]
 rw [List.take_add_one, List.getElem?_eq_getElem h, fl, List.filter_append, e]
 by_cases hd : l[j] = d <;> simp [fl, hd]
theorem fl_take {l : List Int} {d : Int} {k : Nat} (hb : ∀ j, j < k → l.getD j 0 ≠ d) : ∀ i, i ≤ k → i ≤ l.length → fl (l.take i) d = l.take i
 | 0, _, _ => by simp [fl]
 | i + 1, h, hl => by
  rw [fl_snoc l d (by omega), if_pos (hb i (by omega)), fl_take hb i (by omega) (by omega), List.take_add_one, List.getElem?_eq_getElem (by omega)]
  simp [List.getD_eq_getElem?_getD, List.getElem?_eq_getElem (show i < l.length by omega)]
theorem row_get {F G l : List Int} {j : Nat} (h : F.length + G.length = j) (hj : j < l.length) : (F ++ G ++ l.drop j).getD j 0 = l.getD j 0 := by
 rw [List.getD_eq_getElem?_getD, List.getElem?_append_right (by simp; omega), List.length_append, h, Nat.sub_self, List.getElem?_drop]
 simp [List.getD_eq_getElem?_getD]
theorem row_keep {F G l : List Int} {j : Nat} {g : Int} (hj : j < l.length) : (F ++ (g :: G) ++ l.drop j).set F.length (l.getD j 0) = F ++ [l.getD j 0] ++ (G ++ [l.getD j 0]) ++ l.drop (j + 1) := by
 have e : l.getD j 0 = l[j] := by simp [List.getD_eq_getElem?_getD, List.getElem?_eq_getElem hj]
 rw [e, List.drop_eq_getElem_cons hj]
 simp
theorem row_drop {F G l : List Int} {j : Nat} (hj : j < l.length) : F ++ G ++ l.drop j = F ++ (G ++ [l.getD j 0]) ++ l.drop (j + 1) := by
 have e : l.getD j 0 = l[j] := by simp [List.getD_eq_getElem?_getD, List.getElem?_eq_getElem hj]
 rw [e, List.drop_eq_getElem_cons hj]
 simp
theorem row_one {l : List Int} {k : Nat} (hk : k < l.length) : l.take k ++ [l.getD k 0] ++ l.drop (k + 1) = l := by
 have e : l.getD k 0 = l[k] := by simp [List.getD_eq_getElem?_getD, List.getElem?_eq_getElem hk]
 rw [e, List.append_assoc, List.singleton_append, ← List.drop_eq_getElem_cons hk, List.take_append_drop]
theorem row_clear (F G : List Int) : setAt ((F.map num).map D.t ++ (G.map num).map D.t) F.length (((List.replicate G.length (0 : Int)).map num).map D.t) = (F.map num).map D.t ++ ((List.replicate G.length (0 : Int)).map num).map D.t := by
 have := setAt_all (cs := (G.map num).map D.t) (ds := ((List.replicate G.length (0 : Int)).map num).map D.t) (pre := (F.map num).map D.t) (by simp)
 simpa using this
theorem row_shrink (F G : List Int) : List.take F.length ((F.map num).map D.t ++ ((List.replicate G.length (0 : Int)).map num).map D.t) = (F.map num).map D.t := by
 rw [List.take_append_of_le_length (by simp), List.take_of_length_le (by simp)]

end Go.Proofs.Tryz
