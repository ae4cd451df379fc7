/- Contracts of this program's functions. -/
import Derived.Test.YtnliecfmadifkaaDoorSC3
import Derived.Test.YtnliecfmadifkaaDoorSC4
import Derived.Test.YtnliecfmadifkaaDoorSC5
set_option maxHeartbeats 4000000
set_option maxRecDepth 100000
set_option linter.unusedVariables false
set_option linter.unusedSimpArgs false
namespace Go.Proofs.Tryd
open Go Go.Ot

def loD (z : Bool) (nm : Nm) (n : Nat) : D := if z = true then .t (.v (.slice none 0 0)) else .msl nm 0 n 2
@[push_cast] theorem loD_t (nm : Nm) (n : Nat) : loD true nm n = .t (.v (.slice none 0 0)) := rfl
@[push_cast] theorem loD_f (nm : Nm) (n : Nat) : loD false nm n = .msl nm 0 n 2 := rfl
def rowL (z : Bool) (nm : Nm) (l : Chs) (L : List (Nm × Ob)) : List (Nm × Ob) := if z = true then L else putL nm ⟨(chL l).map D.t, 64, true, true⟩ L
@[push_cast] theorem rowL_t (nm : Nm) (l : Chs) (L : List (Nm × Ob)) : rowL true nm l L = L := rfl
@[push_cast] theorem rowL_f (nm : Nm) (l : Chs) (L : List (Nm × Ob)) : rowL false nm l L = putL nm ⟨(chL l).map D.t, 64, true, true⟩ L := rfl
theorem In4_nil : In4 [] := fun i h => by simp at h
theorem In4_snoc {l : Chs} {m : Nat} {x : List UInt8} (h : In4 l) (hm : m < 4) : In4 (l ++ [(m, x)]) := by
  intro i hi
  rw [List.length_append] at hi
  by_cases hl : i < l.length
  · have := h i hl
    simpa [List.getD_eq_getElem?_getD, List.getElem?_append_left hl] using this
  · obtain rfl : i = l.length := by simp at hi; omega
    simpa [List.getD_eq_getElem?_getD] using hm
theorem aw1 : nowF (fun _ => []) [(1, [97])] 1 = [97] := rfl
theorem aw2 : fallF (fun _ => []) [(1, [97])] [] 1 1 = [] := by simp [fallF]
abbrev TQ := Nat × Bool × Bool × St4 × Chs × Int
def TI (k : Nat) (q : TQ) : Prop := q.1 ≤ 10 ∧ q.2.2.2.2.1.length ≤ q.1 ∧ In4 q.2.2.2.2.1 ∧ (q.2.1 = true → q.2.2.2.2.1 = []) ∧ (q.2.2.1 = true ↔ k ≤ q.1) ∧ (q.2.2.1 = false → q.2.2.2.2.2 = (q.1 : Int))
attribute [local irreducible] wpK wpS seqK blockK loopF regK meetK OpSpec Le
theorem num_good (Γ : Gl) (n : Int) : Go.Ot.Good Γ prog 9 [.t (num n)] [] (.t (num n)) [] [] := by
  refine a_body F.mix func9 (by rfl) ntmps9 ?_
  refine k_seq ?_
  refine k_region rfl ?_
  refine a_op ?_
  refine s_nil (r_false ?_)
  refine q_next ?_
  refine k_seq ?_
  refine k_region rfl ?_
  refine a_op ?_
  refine a_op ?_
  refine s_nil (r_false ?_)
  refine q_next ?_
  refine k_ret ?_
  refine ⟨.inr rfl, a_ret [] (by rw [results9]) ?_ ?_ ?_⟩ <;> simp [-List.map_set, -List.map_replicate, -List.reduceReplicate, -List.map_map, -List.map_drop, -List.map_take, num, bol, txt, w8, w16, w32, w64, lst, cls, rowO, boxO, List.take_of_length_le]

theorem awake_good (Γ : Gl) (hE : EG Γ) : Go.Ot.Good Γ prog 7 [] [] (.t (bol true)) [] [] := by
  refine a_body F.mix func7 (by rfl) ntmps7 ?_
  refine k_seq ?_
  refine k_region rfl ?_
  refine a_op ?_
  refine s_nil (r_false ?_)
  refine q_next ?_
  refine k_seq ?_
  refine k_region rfl ?_
  refine a_op ?_
  refine a_call [] false (New_good Γ 0 (.v (.slice none 0 0))) ?_
  refine a_op ?_
  refine s_nil (r_false ?_)
  refine q_next ?_
  refine k_seq ?_
  refine k_seq ?_
  refine k_region rfl ?_
  refine a_op ?_
  refine a_by (spec_ptrNil false rfl rfl (by kernel_rfl)) ?_
  refine s_nil (r_false ?_)
  refine q_next ?_
  refine a_false ?_
  refine k_skip ?_
  refine q_next ?_
  refine k_seq ?_
  refine k_region rfl ?_
  refine a_op ?_
  refine a_callp [.r 1 1 0] [] [] false (wr_okN Γ (fun _ => []) 0 0 1 [97] (by omega) (by omega) (by omega)) ?_
  refine a_op ?_
  refine s_nil (r_false ?_)
  refine q_next ?_
  refine k_seq ?_
  refine k_region rfl ?_
  refine a_op ?_
  refine a_callp [.r 1 1 0, .r 4 1 0] [] [.r 4 1 0] false (rd_okR Γ (fun _ => []) [(1, [97])] (by decide) (by intro i hi; simp at hi; subst hi; decide) 0 (0 + 1) 1 (by omega)) ?_
  iterate 5 refine a_op ?_
  refine s_nil (r_false ?_)
  refine q_next ?_
  refine k_seq ?_
  refine k_region rfl ?_
  refine a_op ?_
  refine a_callp [.r 1 1 0, .r 4 1 0] [] [.r 4 1 0] false (looseR Γ (fun _ => []) [(1, [97])] (by decide) (by intro i hi; simp at hi; subst hi; decide) 0 (0 + 1) false) ?_
  refine a_op ?_
  refine s_nil (r_false ?_)
  refine q_next ?_
  refine k_seq ?_
  refine k_region rfl ?_
  refine a_op ?_
  refine a_op ?_
  refine a_callp [.r 1 1 0, .r 4 1 0] [] [.r 4 1 0] false (fallR Γ (fun _ => []) [(1, [97])] (by decide) (by intro i hi; simp at hi; subst hi; decide) 0 (0 + 1) false 0 [] (by decide)) ?_
  refine s_nil (r_false ?_)
  refine q_next ?_
  refine k_seq ?_
  refine k_region rfl ?_
  refine a_op ?_
  refine a_callp [.r 1 1 0] [] [] false (rd_okN Γ (fallF (fun _ => []) [(1, [97])] [] 1) 0 0 1 (by omega)) ?_
  iterate 5 refine a_op ?_
  refine s_nil (r_false ?_)
  refine q_next ?_
  refine k_seq ?_
  refine k_region rfl ?_
  refine a_op ?_
  refine a_call [] false (num_good Γ 0) ?_
  refine a_op ?_
  refine a_call [] false (num_good Γ 0) ?_
  refine a_op ?_
  refine a_op ?_
  refine a_call [] false (num_good Γ 0) ?_
  iterate 3 refine a_op ?_
  refine a_go ?_
  refine a_go ?_
  refine a_op ?_
  refine a_op ?_
  refine a_go ?_
  refine a_go ?_
  refine a_op ?_
  refine a_op ?_
  refine a_go ?_
  refine a_go ?_
  refine a_op ?_
  refine a_op ?_
  refine s_nil (r_false ?_)
  refine q_next ?_
  refine k_ret ?_
  refine ⟨.inr rfl, a_ret [] (by rw [results7]) ?_ ?_ ?_⟩ <;> simp [-List.map_set, -List.map_replicate, -List.reduceReplicate, -List.map_map, -List.map_drop, -List.map_take, num, bol, txt, w8, w16, w32, w64, lst, cls, rowO, boxO, List.take_of_length_le, aw1, aw2]

end Go.Proofs.Tryd
