/- Contracts of this program's functions. -/
import Derived.Test.YtknmmpgpddhliaaDoorSV4
import Derived.Test.YtknmmpgpddhliaaDoorOtE
set_option maxHeartbeats 4000000
set_option maxRecDepth 100000
set_option linter.unusedVariables false
set_option linter.unusedSimpArgs false
namespace Go.Proofs.Tryd
open Go Go.Ot Ce
attribute [local irreducible] wpK wpS seqK blockK loopF regK meetK OpSpec Le rdS lpW rdW got mayS mayW putS putW nb u64 PutW nowF sideF opn enc Kp

theorem Open_new (Γ : Gl) (hE : EG Γ) (cr ct : Int) : Go.Ot.Good Γ prog 10 [.ptr (.p 0) 0] [boxO 47 [.t (txt ((fun _ : Nat => ([] : List UInt8)) 0)), .t (txt ((fun _ : Nat => ([] : List UInt8)) 1)), .t (txt ((fun _ : Nat => ([] : List UInt8)) 2)), .t (txt ((fun _ : Nat => ([] : List UInt8)) 3)), .t (.v (.slice none 0 0)), .t (num (cr)), .t (.v (.slice none 0 0)), .t (num (ct)), .t (bol (false))]] (.tup [.ptr (.n 0) 0, .t (num 0)]) [some (boxO 47 [.t (txt ((fun _ : Nat => ([] : List UInt8)) 0)), .t (txt ((fun _ : Nat => ([] : List UInt8)) 1)), .t (txt ((fun _ : Nat => ([] : List UInt8)) 2)), .t (txt ((fun _ : Nat => ([] : List UInt8)) 3)), .t (.v (.slice none 0 0)), .t (num (cr)), .t (.v (.slice none 0 0)), .t (num (ct)), .t (bol (false))])] [boxO 49 [.ptr (.p 0) 0, .t (num (0)), .t (txt ([])), .t (bol (false))]] := Open_kp Γ hE (fun _ => []) cr ct 0 [] Kp_0 (by decide)
theorem awake_good (Γ : Gl) (hE : EG Γ)  : Go.Ot.Good Γ prog 8 [] [] (.t (bol true)) [] [] := by
  refine a_body F.mix func8 (by rfl) ntmps8 ?_
  refine k_seq ?_
  refine k_region rfl ?_
  refine a_op ?_
  refine s_nil (r_false ?_)
  refine q_next ?_
  refine k_seq ?_
  refine k_region rfl ?_
  refine a_op ?_
  refine a_call [] false (Ce.New_good Γ 0 (.v (.slice none 0 0))) ?_
  refine a_callp [.r 1 1 0] [] [] false (Open_new Γ hE 0 0) ?_
  iterate 5 refine a_op ?_
  refine s_nil (r_false ?_)
  refine q_next ?_
  refine k_seq ?_
  refine k_seq ?_
  refine k_region rfl ?_
  refine a_op ?_
  refine a_call [] false (num_good Γ 0) ?_
  refine a_op ?_
  refine a_op ?_
  refine a_go ?_
  refine a_bygo (spec_ptrNil false rfl rfl (by kernel_rfl)) ?_
  refine a_op ?_
  refine a_op ?_
  refine a_go ?_
  refine a_callpgo [.r 1 2 0, .r 1 1 0] [] [] false (last_good Γ (fun _ => []) 0 0 false (.t (.v (.slice none 0 0))) 0 [] false) ?_
  refine a_go ?_
  refine a_op ?_
  refine s_nil (r_false ?_)
  refine q_next ?_
  refine a_false ?_
  refine k_skip ?_
  refine q_next ?_
  refine k_seq ?_
  refine k_region rfl ?_
  refine a_op ?_
  refine a_callp [.r 1 2 0, .r 1 1 0] [] [] false (keep_ok Γ (fun _ => []) 0 0 0 (by omega) 1 (by decide) [107, 101, 112, 116] (by decide) [] (by omega) (by omega) (by omega)) ?_
  refine a_op ?_
  refine s_nil (r_false ?_)
  refine q_next ?_
  refine k_seq ?_
  refine k_region rfl ?_
  refine a_op ?_
  refine a_call [] false (num_good Γ 0) ?_
  refine a_op ?_
  refine a_op ?_
  refine a_go ?_
  refine a_callpgo [.r 1 2 0, .r 1 1 0] [] [] false (last_good Γ (Ce.upd (fun _ => []) 1 (enc (0 + 1) [107, 101, 112, 116])) 0 2 false (.t (.v (.slice none 0 0))) 1 [107, 101, 112, 116] false) ?_
  refine a_go ?_
  refine a_op ?_
  refine a_op ?_
  refine s_nil (r_false ?_)
  refine q_next ?_
  refine k_ret ?_
  refine ⟨.inr rfl, a_ret [] (by rw [results8]) ?_ ?_ ?_⟩ <;> simp [-List.map_set, -List.map_replicate, -List.reduceReplicate, -List.map_map, -List.map_drop, -List.map_take, num, bol, txt, w8, w16, w32, w64, lst, cls, rowO, boxO, List.take_of_length_le, Wr.cellsL_len, wA, Wr.k_mk, Wr.n_mk, Wr.s_mk, Wr.l_mk, Wr.cellsL, Wr.z_eq]

end Go.Proofs.Tryd
