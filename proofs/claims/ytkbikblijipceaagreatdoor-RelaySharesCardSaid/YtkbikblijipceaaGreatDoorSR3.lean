/- Contracts of this program's functions. -/
import Derived.Test.YtkbikblijipceaaGreatDoorSR2
set_option maxHeartbeats 4000000
set_option maxRecDepth 100000
set_option linter.unusedVariables false
set_option linter.unusedSimpArgs false
namespace Go.Proofs.Tryz
open Go Go.Ot

theorem got_of_rd {s : List UInt8} {W : Wr} (h : rdW 6 s = (W, .ok, [])) : got s = some W := by
 have := rdW_get 6 s
 rw [h] at this
 simp only [got, ← this, okR]
theorem got_of_lng {s : List UInt8} {W : Wr} {a : UInt8} {r : List UInt8} (h : rdW 6 s = (W, .ok, a :: r)) : got s = none := by
 have := rdW_get 6 s
 rw [h] at this
 simp only [got, ← this, okR]
theorem got_of_bad {s : List UInt8} {W : Wr} {p : List Int} {t r : List UInt8} (h : rdW 6 s = (W, .bad p t, r)) : got s = none := by
 have := rdW_get 6 s
 rw [h] at this
 simp only [got, ← this, okR]

def ixF (p : Wr → Bool) (l : List Wr) : Int := match l.findIdx? p with | some i => (i : Int) | none => -1
theorem ixF_some {p : Wr → Bool} {l : List Wr} {i : Nat} (hi : i < l.length) (h : (l.take i).any p = false) (hp : p (l.getD i default) = true) : ixF p l = i := by
 have e : l.findIdx? p = some i := by
  rw [List.findIdx?_eq_some_iff_getElem]
  refine ⟨hi, by simpa [List.getD_eq_getElem?_getD, List.getElem?_eq_getElem hi] using hp, fun j hj => ?_⟩
  rw [List.any_eq_false] at h
  have := h l[j] (by rw [List.mem_take_iff_getElem]; exact ⟨j, by omega, rfl⟩)
  simpa using this
 rw [ixF, e]
theorem ixF_none {p : Wr → Bool} {l : List Wr} (h : l.any p = false) : ixF p l = -1 := by
 have e : l.findIdx? p = none := by rw [List.findIdx?_eq_none_iff]; intro x hx; rw [List.any_eq_false] at h; simpa using h x hx
 rw [ixF, e]
theorem ixF_any (p : Wr → Bool) (l : List Wr) : decide (0 ≤ ixF p l) = l.any p := by
 rw [ixF]
 cases e : l.findIdx? p with
 | none =>
  rw [List.findIdx?_eq_none_iff] at e
  have : l.any p = false := by rw [List.any_eq_false]; intro x hx; simp [e x hx]
  rw [this]; rfl
 | some i =>
  have hs : (l.findIdx? p).isSome = true := by rw [e]; rfl
  rw [List.findIdx?_isSome] at hs
  rw [hs]; simp
theorem any_next {p : Wr → Bool} {l : List Wr} {i : Nat} (hi : i < l.length) (h : (l.take i).any p = false) (hp : p (l.getD i default) = false) : (l.take (i + 1)).any p = false := by
 rw [List.take_add_one, List.getElem?_eq_getElem hi]
 have : l.getD i default = l[i] := by simp [List.getD_eq_getElem?_getD, List.getElem?_eq_getElem hi]
 rw [this] at hp
 rw [List.any_append, h]
 simp [hp]
theorem mem_getD {l : List Wr} {i : Nat} (h : i < l.length) : l.getD i default ∈ l := by simp [List.getD_eq_getElem?_getD, List.getElem?_eq_getElem h]
theorem beq_ne {s : List UInt8} (h : s ≠ []) : (s == []) = false := by cases s with | nil => exact absurd rfl h | cons a s => rfl
theorem mayS_o {deep : Bool} {sub : Wr → Bool} {k n : Int} {s : List UInt8} {l : List Wr} (h : k ≠ 1 ∧ k ≠ 2 ∧ k ≠ 3) : mayS deep sub (.mk k n s l) = false := by simp [mayS, h]
theorem isE {α : Type} (l : List α) : l.isEmpty = decide (l.length = 0) := by cases l <;> rfl
theorem isB (s : List UInt8) : s.isEmpty = (s == []) := by cases s <;> rfl
theorem mayS_1 {deep : Bool} {sub : Wr → Bool} {n : Int} {s : List UInt8} {l : List Wr} : mayS deep sub (.mk 1 n s l) = ((s == []) && decide (l.length = 0)) := by simp only [mayS, if_true, isB s, isE l]
theorem mayS_2 {deep : Bool} {sub : Wr → Bool} {n : Int} {s : List UInt8} {l : List Wr} : mayS deep sub (.mk 2 n s l) = (decide (n = 0) && decide (l.length = 0) && decide (s.length ≤ 1048576)) := by simp only [mayS, show ((2 : Int) = 1) = False from by simp, if_false, if_true, isE l]
theorem mayS_3 {deep : Bool} {sub : Wr → Bool} {n : Int} {s : List UInt8} {l : List Wr} : mayS deep sub (.mk 3 n s l) = (deep && decide (n = 0) && (s == []) && decide (l.length ≤ 65536) && l.all sub) := by simp only [mayS, show ((3 : Int) = 1) = False from by simp, show ((3 : Int) = 2) = False from by simp, if_false, if_true, isB s]
theorem all_any (sub : Wr → Bool) (l : List Wr) : (!(l.any fun x => !sub x)) = l.all sub := by induction l with | nil => rfl | cons a l ih => simp only [List.any_cons, List.all_cons, Bool.not_or, Bool.not_not, ih]

theorem wire_good (Γ : Gl) : ∀ (d : Nat), d ≤ 6 → ∀ r, r.length ≤ 1000000 → Go.Ot.Good Γ prog 114 [.ptr (.p 0) 0, .t (num d)] [boxO 167 [.t (txt r)]] (rdD (rdW d r)) [some (boxO 167 [.t (txt (rdW d r).2.2)])] []
 | 0, h, r, hr => wire_step Γ 0 h false (by simp) _ (fun r => Nat.le_refl _) (fun h => by cases h) r hr
 | d + 1, h, r, hr => wire_step Γ (d + 1) h true (by simp) (rdW d) (rdW_le d) (fun _ r hr => by
   have := wire_good Γ d (by omega) r hr
   rwa [show ((d + 1 : Nat) : Int) - 1 = (d : Int) from by omega]) r hr
attribute [local irreducible] wpK wpS seqK blockK loopF regK meetK OpSpec Le rdS lpW rdW got
theorem Get_ok (Γ : Gl) (hE : EG Γ) (s : List UInt8) (hs : s.length ≤ 1000000) (W : Wr) (hx : rdW 6 s = (W, .ok, [])) : Go.Ot.Good Γ prog 61 [.t (txt s)] [] (.tup [wA W, .t (bol true)]) [] [] := by
 refine a_body F.mix func61 (by rfl) ntmps61 ?_
 refine k_seq ?_
 refine k_region rfl ?_
 refine a_op ?_
 refine a_op ?_
 refine s_nil (r_false ?_)
 refine q_next ?_
 refine k_seq ?_
 refine k_region rfl ?_
 iterate 4 refine a_op ?_
 refine s_nil (r_false ?_)
 refine q_next ?_
 refine k_seq ?_
 refine k_region rfl ?_
 refine a_op ?_
 refine a_callp [.r 1 2 0] [] [] true (by have h := wire_good Γ 6 (by omega) s hs; rw [hx] at h; exact h) ?_
 iterate 6 refine a_op ?_
 refine s_nil (r_false ?_)
 refine q_next ?_
 refine k_seq ?_
 refine k_seq ?_
 refine k_region rfl ?_
 refine a_op ?_
 refine a_nilnil false ?_
 refine a_op ?_
 refine a_go ?_
 refine a_go ?_
 refine a_go ?_
 refine a_go ?_
 refine a_go ?_
 refine a_op ?_
 refine s_nil (r_false ?_)
 refine q_next ?_
 refine a_false ?_
 refine k_skip ?_
 refine q_next ?_
 refine k_seq ?_
 refine k_region rfl ?_
 refine a_op ?_
 refine s_nil (r_false ?_)
 refine q_next ?_
 refine k_seq ?_
 refine k_seq ?_
 refine k_region rfl ?_
 refine a_op ?_
 refine a_op ?_
 refine a_callp [.r 5 0 0] [] [] false (Asnil_good Γ (.v (.string ⟨#[]⟩))) ?_
 refine s_nil (r_false ?_)
 refine q_next ?_
 refine a_false ?_
 refine k_skip ?_
 refine q_next ?_
 refine k_seq ?_
 refine k_region rfl ?_
 iterate 3 refine a_op ?_
 refine s_nil (r_false ?_)
 refine q_next ?_
 refine k_ret ?_
 refine ⟨.inr rfl, a_ret [] (by rw [results61]) ?_ ?_ ?_⟩ <;> simp [-List.map_set, -List.map_replicate, -List.reduceReplicate, -List.map_map, -List.map_drop, -List.map_take, num, bol, txt, w8, w16, w32, w64, lst, cls, rowO, boxO, List.take_of_length_le, Wr.cellsL_len, wA, Wr.k, Wr.n, Wr.s, Wr.l, Wr.cellsL, erT, chT, chV, wvT, Wr.z, CUT, KS, LONGER]

theorem Get_lng (Γ : Gl) (hE : EG Γ) (s : List UInt8) (hs : s.length ≤ 1000000) (W : Wr) (a : UInt8) (r : List UInt8) (hx : rdW 6 s = (W, .ok, a :: r)) : Go.Ot.Good Γ prog 61 [.t (txt s)] [] (.tup [wA Wr.z, .t (bol false)]) [] [] := by
 have hne : ((a :: r) == ([] : List UInt8)) = false := rfl
 refine a_body F.mix func61 (by rfl) ntmps61 ?_
 refine k_seq ?_
 refine k_region rfl ?_
 refine a_op ?_
 refine a_op ?_
 refine s_nil (r_false ?_)
 refine q_next ?_
 refine k_seq ?_
 refine k_region rfl ?_
 iterate 4 refine a_op ?_
 refine s_nil (r_false ?_)
 refine q_next ?_
 refine k_seq ?_
 refine k_region rfl ?_
 refine a_op ?_
 refine a_callp [.r 1 2 0] [] [] true (by have h := wire_good Γ 6 (by omega) s hs; rw [hx] at h; exact h) ?_
 iterate 6 refine a_op ?_
 refine s_nil (r_false ?_)
 refine q_next ?_
 refine k_seq ?_
 refine k_seq ?_
 refine k_region rfl ?_
 refine a_op ?_
 refine a_nilnil false ?_
 refine a_op ?_
 refine a_go ?_
 refine a_go ?_
 refine a_go ?_
 refine a_go ?_
 refine a_go (hs := by (simp only [push_cast, hne] <;> rfl)) ?_
 refine a_op ?_
 refine s_nil (r_false ?_)
 refine q_next ?_
 refine a_true ?_
 refine k_region rfl ?_
 refine a_op ?_
 refine a_op ?_
 refine s_nil (r_false ?_)
 refine q_next ?_
 refine k_seq ?_
 refine k_region rfl ?_
 refine a_op ?_
 refine s_nil (r_false ?_)
 refine q_next ?_
 refine k_seq ?_
 refine k_seq ?_
 refine k_region rfl ?_
 refine a_op ?_
 refine a_op ?_
 refine a_callp [.r 5 0 0] [] [] false ((As_good Γ hE [] [108, 111, 110, 103, 101, 114] (.v (.string ⟨#[]⟩))).plain1 (chT_plain [108, 111, 110, 103, 101, 114] [])) ?_
 refine s_nil (r_false ?_)
 refine q_next ?_
 refine a_true ?_
 refine k_seq ?_
 refine k_region rfl ?_
 iterate 3 refine a_op ?_
 refine s_nil (r_false ?_)
 refine q_next ?_
 refine k_ret ?_
 refine q_seq_ret ?_
 refine ⟨.inr rfl, a_ret [] (by rw [results61]) ?_ ?_ ?_⟩ <;> simp [-List.map_set, -List.map_replicate, -List.reduceReplicate, -List.map_map, -List.map_drop, -List.map_take, num, bol, txt, w8, w16, w32, w64, lst, cls, rowO, boxO, List.take_of_length_le, Wr.cellsL_len, wA, Wr.k, Wr.n, Wr.s, Wr.l, Wr.cellsL, erT, chT, chV, wvT, Wr.z, CUT, KS, LONGER]

theorem Get_bad (Γ : Gl) (hE : EG Γ) (s : List UInt8) (hs : s.length ≤ 1000000) (W : Wr) (p : List Int) (t r : List UInt8) (hx : rdW 6 s = (W, .bad p t, r)) : Go.Ot.Good Γ prog 61 [.t (txt s)] [] (.tup [wA Wr.z, .t (bol false)]) [] [] := by
 refine a_body F.mix func61 (by rfl) ntmps61 ?_
 refine k_seq ?_
 refine k_region rfl ?_
 refine a_op ?_
 refine a_op ?_
 refine s_nil (r_false ?_)
 refine q_next ?_
 refine k_seq ?_
 refine k_region rfl ?_
 iterate 4 refine a_op ?_
 refine s_nil (r_false ?_)
 refine q_next ?_
 refine k_seq ?_
 refine k_region rfl ?_
 refine a_op ?_
 refine a_callp [.r 1 2 0] [] [] true (by have h := wire_good Γ 6 (by omega) s hs; rw [hx] at h; exact h) ?_
 iterate 6 refine a_op ?_
 refine s_nil (r_false ?_)
 refine q_next ?_
 refine k_seq ?_
 refine k_seq ?_
 refine k_region rfl ?_
 refine a_op ?_
 refine a_isnil false ?_
 refine a_op ?_
 refine a_no ?_
 refine a_no ?_
 refine a_no ?_
 refine a_no ?_
 refine a_no ?_
 refine a_op ?_
 refine s_nil (r_false ?_)
 refine q_next ?_
 refine a_false ?_
 refine k_skip ?_
 refine q_next ?_
 refine k_seq ?_
 refine k_region rfl ?_
 refine a_op ?_
 refine s_nil (r_false ?_)
 refine q_next ?_
 refine k_seq ?_
 refine k_seq ?_
 refine k_region rfl ?_
 refine a_op ?_
 refine a_op ?_
 refine a_callp [.r 5 0 0] [] [] false ((As_good Γ hE p t (.v (.string ⟨#[]⟩))).plain1 (chT_plain t p)) ?_
 refine s_nil (r_false ?_)
 refine q_next ?_
 refine a_true ?_
 refine k_seq ?_
 refine k_region rfl ?_
 iterate 3 refine a_op ?_
 refine s_nil (r_false ?_)
 refine q_next ?_
 refine k_ret ?_
 refine q_seq_ret ?_
 refine ⟨.inr rfl, a_ret [] (by rw [results61]) ?_ ?_ ?_⟩ <;> simp [-List.map_set, -List.map_replicate, -List.reduceReplicate, -List.map_map, -List.map_drop, -List.map_take, num, bol, txt, w8, w16, w32, w64, lst, cls, rowO, boxO, List.take_of_length_le, Wr.cellsL_len, wA, Wr.k, Wr.n, Wr.s, Wr.l, Wr.cellsL, erT, chT, chV, wvT, Wr.z, CUT, KS, LONGER]

theorem Get_good (Γ : Gl) (hE : EG Γ) (s : List UInt8) (hs : s.length ≤ 1000000) : Go.Ot.Good Γ prog 61 [.t (txt s)] [] (.tup [wA ((got s).getD Wr.z), .t (bol (got s).isSome)]) [] [] := by
 rcases hx : rdW 6 s with ⟨W, _ | ⟨p, t⟩, r⟩
 ·rcases r with _ | ⟨a, r⟩
  ·rw [got_of_rd hx]; exact Get_ok Γ hE s hs W hx
  ·rw [got_of_lng hx]; exact Get_lng Γ hE s hs W a r hx
 ·rw [got_of_bad hx]; exact Get_bad Γ hE s hs W p t r hx
end Go.Proofs.Tryz
