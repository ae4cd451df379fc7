/- Contracts of this program's functions. -/
import Derived.Test.YtkbikblijipceaaGreatDoorSP1
import Derived.Test.YtkbikblijipceaaGreatDoorSM1
set_option maxHeartbeats 4000000
set_option maxRecDepth 100000
set_option linter.unusedVariables false
set_option linter.unusedSimpArgs false
namespace Go.Proofs.Tryz
open Go Go.Ot

theorem may_good (Γ : Gl) : ∀ (d : Nat), d ≤ 6 → ∀ w, Go.Ot.Good Γ prog 148 [wA w, .t (num d)] [] (.t (bol (mayW d w))) [] []
 | 0, h, w => may_step Γ 0 h false (by simp) (fun _ => false) (fun h => by omega) w
 | d + 1, h, w => may_step Γ (d + 1) h true (by simp) (mayW d) (fun _ w => by
   have := may_good Γ d (by omega) w
   rwa [show ((d + 1 : Nat) : Int) - 1 = (d : Int) from by omega]) w
theorem put_good (Γ : Gl) : ∀ (d : Nat) (b : List UInt8) (w : Wr), mayW d w = true → b.length + (putW d w).length ≤ 100000000 → Go.Ot.Good Γ prog 117 [.msl (.p 0) 0 b.length 1, wA w] [rowO 5 w8 b] (.msl (.p 0) 0 (b ++ putW d w).length 1) [some (rowO 5 w8 (b ++ putW d w))] []
 | 0, b, w, hm, hl => put_step Γ false (fun _ => false) (fun _ => []) (fun b w h => by cases h) b w hm hl
 | d + 1, b, w, hm, hl => put_step Γ true (mayW d) (putW d) (fun b w h hl => put_good Γ d b w h hl) b w hm hl
theorem put0_good (Γ : Gl) : ∀ (d : Nat) (w : Wr), mayW d w = true → (putW d w).length ≤ 100000000 → Go.Ot.Good Γ prog 117 [.t (.v (.slice none 0 0)), wA w] [] (.t (lst w8 (putW d w))) [] []
 | 0, w, hm, hl => put0_step Γ false (fun _ => false) (fun _ => []) (fun b w h => by cases h) w hm hl
 | d + 1, w, hm, hl => put0_step Γ true (mayW d) (putW d) (fun b w h hl => put_good Γ d b w h hl) w hm hl
/-- A wire's bytes, or none. -/
def PutW (w : Wr) : List UInt8 := if mayW 6 w = true then putW 6 w else []
theorem PutW_t {w : Wr} (h : mayW 6 w = true) : PutW w = putW 6 w := by simp [PutW, h]
theorem PutW_f {w : Wr} (h : mayW 6 w = false) : PutW w = [] := by simp [PutW, h]

attribute [local irreducible] wpK wpS seqK blockK loopF regK meetK OpSpec Le rdS lpW rdW got mayS mayW ixF putS putW nb nbS u64 fmT PutW

theorem May_good (Γ : Gl) (w : Wr) : Go.Ot.Good Γ prog 116 [wA w] [] (.t (bol (mayW 6 w))) [] [] := by
 refine a_body F.mix func116 (by rfl) ntmps116 ?_
 refine k_seq ?_
 refine k_region rfl ?_
 refine a_op ?_
 refine a_op ?_
 refine s_nil (r_false ?_)
 refine q_next ?_
 refine k_seq ?_
 refine k_region rfl ?_
 refine a_op ?_
 refine a_call [] false (may_good Γ 6 (by omega) w) ?_
 refine a_op ?_
 refine s_nil (r_false ?_)
 refine q_next ?_
 refine k_ret ?_
 refine ⟨.inr rfl, a_ret [] (by rw [results116]) ?_ ?_ ?_⟩ <;> simp [-List.map_set, -List.map_replicate, -List.reduceReplicate, -List.map_map, -List.map_drop, -List.map_take, num, bol, txt, w8, w16, w32, w64, lst, cls, rowO, boxO, List.take_of_length_le, Wr.cellsL_len, wA, Wr.k_mk, Wr.n_mk, Wr.s_mk, Wr.l_mk, Wr.cellsL, Wr.z_eq]

theorem Put_t (Γ : Gl) (w : Wr) (h : mayW 6 w = true) (hl : (putW 6 w).length ≤ 100000000) : Go.Ot.Good Γ prog 66 [wA w] [] (.t (txt (PutW w))) [] [] := by
 refine a_body F.mix func66 (by rfl) ntmps66 ?_
 refine k_seq ?_
 refine k_region rfl ?_
 refine a_op ?_
 refine a_op ?_
 refine s_nil (r_false ?_)
 refine q_next ?_
 refine k_seq ?_
 refine k_seq ?_
 refine k_region rfl ?_
 refine a_op ?_
 refine a_call [] false (by have := May_good Γ w; rw [h] at this; exact this) ?_
 refine a_op ?_
 refine s_nil (r_false ?_)
 refine q_next ?_
 refine a_false ?_
 refine k_skip ?_
 refine q_next ?_
 refine k_seq ?_
 refine k_region rfl ?_
 refine a_op ?_
 refine a_call [] true (put0_good Γ 6 w h hl) ?_
 first | refine a_text ?_ | refine a_texts ?_
 refine a_op ?_
 refine s_nil (r_false ?_)
 refine q_next ?_
 refine k_ret ?_
 refine ⟨.inr rfl, a_ret [] (by rw [results66]) ?_ ?_ ?_⟩ <;> simp [-List.map_set, -List.map_replicate, -List.reduceReplicate, -List.map_map, -List.map_drop, -List.map_take, num, bol, txt, w8, w16, w32, w64, lst, cls, rowO, boxO, List.take_of_length_le, Wr.cellsL_len, wA, Wr.k_mk, Wr.n_mk, Wr.s_mk, Wr.l_mk, Wr.cellsL, Wr.z_eq, PutW_t h]

theorem Put_f (Γ : Gl) (w : Wr) (h : mayW 6 w = false) : Go.Ot.Good Γ prog 66 [wA w] [] (.t (txt (PutW w))) [] [] := by
 refine a_body F.mix func66 (by rfl) ntmps66 ?_
 refine k_seq ?_
 refine k_region rfl ?_
 refine a_op ?_
 refine a_op ?_
 refine s_nil (r_false ?_)
 refine q_next ?_
 refine k_seq ?_
 refine k_seq ?_
 refine k_region rfl ?_
 refine a_op ?_
 refine a_call [] false (by have := May_good Γ w; rw [h] at this; exact this) ?_
 refine a_op ?_
 refine s_nil (r_false ?_)
 refine q_next ?_
 refine a_true ?_
 refine k_seq ?_
 refine k_region rfl ?_
 refine a_op ?_
 refine s_nil (r_false ?_)
 refine q_next ?_
 refine k_ret ?_
 refine q_seq_ret ?_
 refine ⟨.inr rfl, a_ret [] (by rw [results66]) ?_ ?_ ?_⟩ <;> simp [-List.map_set, -List.map_replicate, -List.reduceReplicate, -List.map_map, -List.map_drop, -List.map_take, num, bol, txt, w8, w16, w32, w64, lst, cls, rowO, boxO, List.take_of_length_le, Wr.cellsL_len, wA, Wr.k_mk, Wr.n_mk, Wr.s_mk, Wr.l_mk, Wr.cellsL, Wr.z_eq, PutW_f h]

theorem Put_good (Γ : Gl) (w : Wr) (hl : mayW 6 w = true → (putW 6 w).length ≤ 100000000) : Go.Ot.Good Γ prog 66 [wA w] [] (.t (txt (PutW w))) [] [] := by
 cases h : mayW 6 w with
 | true => exact Put_t Γ w h (hl h)
 | false => exact Put_f Γ w h
end Go.Proofs.Tryz
