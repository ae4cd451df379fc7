/- Contracts of this program's functions. -/
import Derived.Test.YtppicdhlpdhoiaaDoorSSN2
import Derived.Test.YtppicdhlpdhoiaaDoorSSN3
import Derived.Test.YtppicdhlpdhoiaaDoorSSN6
import Derived.Test.YtppicdhlpdhoiaaDoorOtE
set_option maxHeartbeats 4000000
set_option maxRecDepth 100000
set_option linter.unusedVariables false
set_option linter.unusedSimpArgs false
namespace Go.Proofs.Tryd
open Go Go.Ot

theorem eqin_dt (a b c d : Int) (w : World) : (Op.equalIn 10000 40 (.agg #[.int .i64 a, .int .i64 b]) (.agg #[.int .i64 c, .int .i64 d])).run Tryd.prog w = .ok (decide (a = c ∧ b = d)) w := by
 have hS : Tryd.prog.underlying 40 = some (.struct (Tryd.prog.fieldsOf 40)) := by kernel_rfl
 have hp : Tryd.prog.stoodInHeld 40 = false := by kernel_rfl
 have p0 : ∀ a b : Value, (Go.part 3 #[a, b] 0).run Tryd.prog w = .ok a w := fun a b => by kernel_rfl
 have p1 : ∀ a b : Value, (Go.part 3 #[a, b] 1).run Tryd.prog w = .ok b w := fun a b => by kernel_rfl
 have e3 : ∀ a b : Int, (Op.equalIn 9999 3 (.int .i64 a) (.int .i64 b)).run Tryd.prog w = .ok (a == b) w := fun a b => run_equalIn_int w 9998 3 .i64 .i64 a b Tryd.underlying3
 rw [show (10000 : Nat) = 9999 + 1 from rfl, run_equalIn_agg w 9999 40 _ _ hS hp]
 simp only [Program.fieldsOf, Tryd.underlying40]
 simp [Op.eqFields, p0, p1, e3, Result.andThen]
 by_cases h1 : a = c <;> by_cases h2 : b = d <;> simp [h1, h2]
theorem eq_dt {a b c d : Int} {r : Bool} (h : decide (a = c ∧ b = d) = r) (w : World) : (binOp .eql 40 (.agg #[.int .i64 a, .int .i64 b]) (.agg #[.int .i64 c, .int .i64 d])).run Tryd.prog w = .ok (.bool r) w := by
 rw [← h, run_eql_struct, eqin_dt]; rfl
theorem eqin_rn (q r : Rn) (w : World) : (Op.equalIn 10000 46 (.agg #[.int .i64 q.dev, .int .i64 q.fr, .int .i64 q.to]) (.agg #[.int .i64 r.dev, .int .i64 r.fr, .int .i64 r.to])).run Tryd.prog w = .ok (decide (q = r)) w := by
 have hS : Tryd.prog.underlying 46 = some (.struct (Tryd.prog.fieldsOf 46)) := by kernel_rfl
 have hp : Tryd.prog.stoodInHeld 46 = false := by kernel_rfl
 have p0 : ∀ a b c : Value, (Go.part 3 #[a, b, c] 0).run Tryd.prog w = .ok a w := fun a b c => by kernel_rfl
 have p1 : ∀ a b c : Value, (Go.part 3 #[a, b, c] 1).run Tryd.prog w = .ok b w := fun a b c => by kernel_rfl
 have p2 : ∀ a b c : Value, (Go.part 3 #[a, b, c] 2).run Tryd.prog w = .ok c w := fun a b c => by kernel_rfl
 have e3 : ∀ a b : Int, (Op.equalIn 9999 3 (.int .i64 a) (.int .i64 b)).run Tryd.prog w = .ok (a == b) w := fun a b => run_equalIn_int w 9998 3 .i64 .i64 a b Tryd.underlying3
 rw [show (10000 : Nat) = 9999 + 1 from rfl, run_equalIn_agg w 9999 46 _ _ hS hp]
 simp only [Program.fieldsOf, Tryd.underlying46]
 have hi : (q = r) ↔ q.dev = r.dev ∧ q.fr = r.fr ∧ q.to = r.to := by cases q; cases r; simp
 simp [Op.eqFields, p0, p1, p2, e3, Result.andThen, hi]
 by_cases h1 : q.dev = r.dev <;> by_cases h2 : q.fr = r.fr <;> by_cases h3 : q.to = r.to <;> simp [h1, h2, h3]
theorem ne_rn {q r : Rn} {b : Bool} (h : (!decide (q = r)) = b) (w : World) : (binOp .neq 46 (.agg #[.int .i64 q.dev, .int .i64 q.fr, .int .i64 q.to]) (.agg #[.int .i64 r.dev, .int .i64 r.fr, .int .i64 r.to])).run Tryd.prog w = .ok (.bool b) w := by
 rw [← h, run_neq_struct, eqin_rn]; rfl
def ftV (f : Ft) : Value := .agg #[.int .i64 f.dev, .int .i64 f.n, .string (S f.key), .int .i64 f.kind, .string (S f.item), .int .i64 f.m]
theorem eqin_ft (q r : Ft) (w : World) : (Op.equalIn 10000 42 (ftV q) (ftV r)).run Tryd.prog w = .ok (decide (q = r)) w := by
 have hS : Tryd.prog.underlying 42 = some (.struct (Tryd.prog.fieldsOf 42)) := by kernel_rfl
 have hp : Tryd.prog.stoodInHeld 42 = false := by kernel_rfl
 have hS2 : Tryd.prog.underlying 40 = some (.struct (Tryd.prog.fieldsOf 40)) := by kernel_rfl
 have hp2 : Tryd.prog.stoodInHeld 40 = false := by kernel_rfl
 have p0 : ∀ a b c d e f : Value, (Go.part 40 #[a, b, c, d, e, f] 0).run Tryd.prog w = .ok (.agg #[a, b]) w := fun a b c d e f => by kernel_rfl
 have p1 : ∀ a b c d e f : Value, (Go.part 9 #[a, b, c, d, e, f] 2).run Tryd.prog w = .ok c w := fun a b c d e f => by kernel_rfl
 have p2 : ∀ a b c d e f : Value, (Go.part 3 #[a, b, c, d, e, f] 3).run Tryd.prog w = .ok d w := fun a b c d e f => by kernel_rfl
 have p3 : ∀ a b c d e f : Value, (Go.part 9 #[a, b, c, d, e, f] 4).run Tryd.prog w = .ok e w := fun a b c d e f => by kernel_rfl
 have p4 : ∀ a b c d e f : Value, (Go.part 3 #[a, b, c, d, e, f] 5).run Tryd.prog w = .ok f w := fun a b c d e f => by kernel_rfl
 have d0 : ∀ a b : Value, (Go.part 3 #[a, b] 0).run Tryd.prog w = .ok a w := fun a b => by kernel_rfl
 have d1 : ∀ a b : Value, (Go.part 3 #[a, b] 1).run Tryd.prog w = .ok b w := fun a b => by kernel_rfl
 have e2 : ∀ a b : Int, (Op.equalIn 9998 3 (.int .i64 a) (.int .i64 b)).run Tryd.prog w = .ok (a == b) w := fun a b => run_equalIn_int w 9997 3 .i64 .i64 a b Tryd.underlying3
 have e3 : ∀ a b : Int, (Op.equalIn 9999 3 (.int .i64 a) (.int .i64 b)).run Tryd.prog w = .ok (a == b) w := fun a b => run_equalIn_int w 9998 3 .i64 .i64 a b Tryd.underlying3
 have e9 : ∀ a b : ByteArray, (Op.equalIn 9999 9 (.string a) (.string b)).run Tryd.prog w = .ok (a.toList == b.toList) w := fun a b => run_equalIn_string w 9998 9 a b Tryd.underlying9
 have ed : ∀ a b c d : Int, (Op.equalIn 9999 40 (.agg #[.int .i64 a, .int .i64 b]) (.agg #[.int .i64 c, .int .i64 d])).run Tryd.prog w = .ok (decide (a = c ∧ b = d)) w := fun a b c d => by
  rw [show (9999 : Nat) = 9998 + 1 from rfl, run_equalIn_agg w 9998 40 _ _ hS2 hp2]
  simp only [Program.fieldsOf, Tryd.underlying40]
  simp [Op.eqFields, d0, d1, e2, Result.andThen]
  by_cases h1 : a = c <;> by_cases h2 : b = d <;> simp [h1, h2]
 rw [ftV, ftV, show (10000 : Nat) = 9999 + 1 from rfl, run_equalIn_agg w 9999 42 _ _ hS hp]
 simp only [Program.fieldsOf, Tryd.underlying42]
 have hl : ∀ a : List UInt8, (S a).toList = a := fun a => by simp [S]
 have hi : (q = r) ↔ (q.dev = r.dev ∧ q.n = r.n) ∧ q.key = r.key ∧ q.kind = r.kind ∧ q.item = r.item ∧ q.m = r.m := by cases q; cases r; simp [and_assoc]
 simp [Op.eqFields, p0, p1, p2, p3, p4, ed, e3, e9, Result.andThen, hl, hi]
 by_cases h1 : q.dev = r.dev <;> by_cases h0 : q.n = r.n <;> by_cases h2 : q.key = r.key <;> by_cases h3 : q.kind = r.kind <;> by_cases h4 : q.item = r.item <;> by_cases h5 : q.m = r.m <;> simp [h0, h1, h2, h3, h4, h5]
theorem ne_ft {q r : Ft} {b : Bool} (h : (!decide (q = r)) = b) (w : World) : (binOp .neq 42 (.agg #[.int .i64 q.dev, .int .i64 q.n, .string (S q.key), .int .i64 q.kind, .string (S q.item), .int .i64 q.m]) (.agg #[.int .i64 r.dev, .int .i64 r.n, .string (S r.key), .int .i64 r.kind, .string (S r.item), .int .i64 r.m])).run Tryd.prog w = .ok (.bool b) w := by
 rw [← h, run_neq_struct]
 have := eqin_ft q r w
 rw [ftV, ftV] at this
 rw [this]; rfl
theorem list_ext_getD {α : Type} [Inhabited α] {a b : List α} (hl : a.length = b.length) (h : ∀ i, i < a.length → a.getD i default = b.getD i default) : a = b := by
 apply List.ext_getElem hl
 intro i h1 h2
 have := h i h1
 simpa [List.getD_eq_getElem?_getD, List.getElem?_eq_getElem h1, List.getElem?_eq_getElem h2] using this
theorem sa_eq {a b : Sa} : (a = b) ↔ (a.seen = b.seen ∧ a.fs = b.fs) := by cases a; cases b; simp
attribute [local irreducible] wpK wpS seqK blockK loopF regK meetK OpSpec Le
theorem cmpR_good (Γ : Gl) (a b c d : Int) : Go.Ot.Good Γ prog 29 [.agg [.t (num a), .t (num b)], .agg [.t (num c), .t (num d)]] [] (.t (num (cmpD a b c d))) [] [] := by
 refine a_body F.mix func29 (by rfl) ntmps29 ?_
 refine k_seq ?_
 refine k_region rfl ?_
 iterate 3 refine a_op ?_
 refine s_nil (r_false ?_)
 refine q_next ?_
 refine k_seq ?_
 refine k_block ?_
 refine k_seq ?_
 refine k_region rfl ?_
 rcases (show a < c ∨ (a = c ∧ b < d) ∨ (a = c ∧ b = d) ∨ (a = c ∧ d < b) ∨ c < a by omega) with g | ⟨g, g2⟩ | ⟨g, g2⟩ | ⟨g, g2⟩ | g
 ·have hq := cmpD_l (b := b) (d := d) (.inl g)
  iterate 6 refine a_op ?_
  refine a_no ?_
  refine a_no ?_
  refine a_no ?_
  refine a_no ?_
  refine a_no ?_
  refine a_no ?_
  refine a_no ?_
  refine a_no ?_
  refine a_no ?_
  refine a_no ?_
  refine a_no ?_
  refine a_no ?_
  refine a_op ?_
  refine a_op ?_
  refine s_nil (r_false ?_)
  refine q_next ?_
  refine a_true ?_
  refine k_seq ?_
  refine k_region rfl ?_
  refine a_op ?_
  refine s_nil (r_false ?_)
  refine q_next ?_
  refine k_ret ?_
  refine q_block_ret (q_seq_ret ?_)
  refine ⟨.inr rfl, a_ret [] (by rw [results29]) ?_ ?_ ?_⟩ <;> simp [-List.map_set, -List.map_replicate, -List.reduceReplicate, -List.map_map, -List.map_drop, -List.map_take, num, bol, txt, w8, w16, w32, w64, lst, cls, rowO, boxO, List.take_of_length_le, Wr.cellsL_len, wA, Wr.k_mk, Wr.n_mk, Wr.s_mk, Wr.l_mk, Wr.cellsL, Wr.z_eq, rnT, ftT, hq]
 ·have hq := cmpD_l (.inr ⟨g, g2⟩)
  iterate 6 refine a_op ?_
  refine a_go ?_
  refine a_go ?_
  refine a_go ?_
  refine a_go ?_
  refine a_go ?_
  refine a_go ?_
  refine a_go ?_
  refine a_go ?_
  refine a_go ?_
  refine a_go ?_
  refine a_go ?_
  refine a_go ?_
  refine a_op ?_
  refine a_op ?_
  refine s_nil (r_false ?_)
  refine q_next ?_
  refine a_true ?_
  refine k_seq ?_
  refine k_region rfl ?_
  refine a_op ?_
  refine s_nil (r_false ?_)
  refine q_next ?_
  refine k_ret ?_
  refine q_block_ret (q_seq_ret ?_)
  refine ⟨.inr rfl, a_ret [] (by rw [results29]) ?_ ?_ ?_⟩ <;> simp [-List.map_set, -List.map_replicate, -List.reduceReplicate, -List.map_map, -List.map_drop, -List.map_take, num, bol, txt, w8, w16, w32, w64, lst, cls, rowO, boxO, List.take_of_length_le, Wr.cellsL_len, wA, Wr.k_mk, Wr.n_mk, Wr.s_mk, Wr.l_mk, Wr.cellsL, Wr.z_eq, rnT, ftT, hq]
 ·have hq : cmpD a b c d = 0 := by rw [← g, ← g2]; exact cmpD_e a b
  iterate 6 refine a_op ?_
  refine a_go ?_
  refine a_go ?_
  refine a_go ?_
  refine a_go ?_
  refine a_go ?_
  refine a_go ?_
  refine a_go ?_
  refine a_go ?_
  refine a_go ?_
  refine a_go ?_
  refine a_go ?_
  refine a_go ?_
  refine a_op ?_
  refine a_op ?_
  refine s_nil (r_false ?_)
  refine q_next ?_
  refine a_false ?_
  refine k_seq ?_
  refine k_region rfl ?_
  refine a_op ?_
  refine a_op ?_
  refine a_eqs _ ?_ (eq_dt (a := a) (b := b) (c := c) (d := d) (r := true) (by exact decide_eq_true ⟨g, g2⟩))
  refine a_op ?_
  refine s_nil (r_false ?_)
  refine q_next ?_
  refine a_true ?_
  refine k_seq ?_
  refine k_region rfl ?_
  refine a_op ?_
  refine s_nil (r_false ?_)
  refine q_next ?_
  refine k_ret ?_
  refine q_block_ret (q_seq_ret ?_)
  refine ⟨.inr rfl, a_ret [] (by rw [results29]) ?_ ?_ ?_⟩ <;> simp [-List.map_set, -List.map_replicate, -List.reduceReplicate, -List.map_map, -List.map_drop, -List.map_take, num, bol, txt, w8, w16, w32, w64, lst, cls, rowO, boxO, List.take_of_length_le, Wr.cellsL_len, wA, Wr.k_mk, Wr.n_mk, Wr.s_mk, Wr.l_mk, Wr.cellsL, Wr.z_eq, rnT, ftT, hq]
 ·have hq := cmpD_g (.inr ⟨g, g2⟩)
  iterate 6 refine a_op ?_
  refine a_go ?_
  refine a_go ?_
  refine a_go ?_
  refine a_go ?_
  refine a_go ?_
  refine a_go ?_
  refine a_go ?_
  refine a_go ?_
  refine a_go ?_
  refine a_go ?_
  refine a_go ?_
  refine a_go ?_
  refine a_op ?_
  refine a_op ?_
  refine s_nil (r_false ?_)
  refine q_next ?_
  refine a_false ?_
  refine k_seq ?_
  refine k_region rfl ?_
  refine a_op ?_
  refine a_op ?_
  refine a_eqs _ ?_ (eq_dt (a := a) (b := b) (c := c) (d := d) (r := false) (by exact decide_eq_false (fun h => by have h1 := h.1; have h2 := h.2; omega)))
  refine a_op ?_
  refine s_nil (r_false ?_)
  refine q_next ?_
  refine a_false ?_
  refine k_skip ?_
  refine q_block (q_next ?_)
  refine k_seq ?_
  refine k_region rfl ?_
  refine a_op ?_
  refine s_nil (r_false ?_)
  refine q_next ?_
  refine k_ret ?_
  refine ⟨.inr rfl, a_ret [] (by rw [results29]) ?_ ?_ ?_⟩ <;> simp [-List.map_set, -List.map_replicate, -List.reduceReplicate, -List.map_map, -List.map_drop, -List.map_take, num, bol, txt, w8, w16, w32, w64, lst, cls, rowO, boxO, List.take_of_length_le, Wr.cellsL_len, wA, Wr.k_mk, Wr.n_mk, Wr.s_mk, Wr.l_mk, Wr.cellsL, Wr.z_eq, rnT, ftT, hq]
 ·have hq := cmpD_g (b := b) (d := d) (.inl g)
  iterate 6 refine a_op ?_
  refine a_go ?_
  refine a_go ?_
  refine a_go ?_
  refine a_go ?_
  refine a_go ?_
  refine a_go ?_
  refine a_no ?_
  refine a_no ?_
  refine a_no ?_
  refine a_no ?_
  refine a_no ?_
  refine a_go ?_
  refine a_op ?_
  refine a_op ?_
  refine s_nil (r_false ?_)
  refine q_next ?_
  refine a_false ?_
  refine k_seq ?_
  refine k_region rfl ?_
  refine a_op ?_
  refine a_op ?_
  refine a_eqs _ ?_ (eq_dt (a := a) (b := b) (c := c) (d := d) (r := false) (by exact decide_eq_false (fun h => by have h1 := h.1; have h2 := h.2; omega)))
  refine a_op ?_
  refine s_nil (r_false ?_)
  refine q_next ?_
  refine a_false ?_
  refine k_skip ?_
  refine q_block (q_next ?_)
  refine k_seq ?_
  refine k_region rfl ?_
  refine a_op ?_
  refine s_nil (r_false ?_)
  refine q_next ?_
  refine k_ret ?_
  refine ⟨.inr rfl, a_ret [] (by rw [results29]) ?_ ?_ ?_⟩ <;> simp [-List.map_set, -List.map_replicate, -List.reduceReplicate, -List.map_map, -List.map_drop, -List.map_take, num, bol, txt, w8, w16, w32, w64, lst, cls, rowO, boxO, List.take_of_length_le, Wr.cellsL_len, wA, Wr.k_mk, Wr.n_mk, Wr.s_mk, Wr.l_mk, Wr.cellsL, Wr.z_eq, rnT, ftT, hq]

theorem sa_mayR (Γ : Gl) (s : Sa) (hs1 : s.seen.length ≤ 9223372036854775807) (hs2 : s.fs.length ≤ 9223372036854775807) : Go.Ot.Good Γ prog 13 [.agg [.t (.sl s.seen.length (s.seen.flatMap rnT)), .t (.sl s.fs.length (s.fs.flatMap ftT))]] [] (.t (bol (saB s))) [] [] := by
 refine a_body F.mix func13 (by rfl) ntmps13 ?_
 refine k_seq ?_
 refine k_region rfl ?_
 refine a_op ?_
 refine a_op ?_
 refine s_nil (r_false ?_)
 refine q_next ?_
 refine k_seq ?_
 refine k_seq ?_
 refine k_region rfl ?_
 rcases hm : mrB s.seen with _ | _
 rotate_left 1
 rcases (show 400 < s.fs.length ∨ s.fs.length ≤ 400 by omega) with h4 | h4
 rotate_right 1
 ·have hq : saB s = false := saB_f (fun h => by have h1 := h.1.1; have h2 := h.1.2; first | omega | (rw [hm] at h1; cases h1))
  refine a_op ?_
  refine a_op ?_
  refine a_call [] false ((by have h := mayrR_good Γ s.seen hs1; rw [hm] at h; exact h)) ?_
  refine a_op ?_
  refine a_op ?_
  refine a_no ?_
  refine a_no ?_
  refine a_no ?_
  refine a_no ?_
  refine a_op ?_
  refine s_nil (r_false ?_)
  refine q_next ?_
  refine a_true ?_
  refine k_seq ?_
  refine k_region rfl ?_
  refine a_op ?_
  refine s_nil (r_false ?_)
  refine q_next ?_
  refine k_ret ?_
  refine q_seq_ret ?_
  refine ⟨.inr rfl, a_ret [] (by rw [results13]) ?_ ?_ ?_⟩ <;> simp [-List.map_set, -List.map_replicate, -List.reduceReplicate, -List.map_map, -List.map_drop, -List.map_take, num, bol, txt, w8, w16, w32, w64, lst, cls, rowO, boxO, List.take_of_length_le, Wr.cellsL_len, wA, Wr.k_mk, Wr.n_mk, Wr.s_mk, Wr.l_mk, Wr.cellsL, Wr.z_eq, rnT, ftT, hq]
 ·have hq : saB s = false := saB_f (fun h => by have h1 := h.1.1; have h2 := h.1.2; first | omega | (rw [hm] at h1; cases h1))
  refine a_op ?_
  refine a_op ?_
  refine a_call [] false ((by have h := mayrR_good Γ s.seen hs1; rw [hm] at h; exact h)) ?_
  refine a_op ?_
  refine a_op ?_
  refine a_go ?_
  refine a_go ?_
  refine a_go ?_
  refine a_go ?_
  refine a_op ?_
  refine s_nil (r_false ?_)
  refine q_next ?_
  refine a_true ?_
  refine k_seq ?_
  refine k_region rfl ?_
  refine a_op ?_
  refine s_nil (r_false ?_)
  refine q_next ?_
  refine k_ret ?_
  refine q_seq_ret ?_
  refine ⟨.inr rfl, a_ret [] (by rw [results13]) ?_ ?_ ?_⟩ <;> simp [-List.map_set, -List.map_replicate, -List.reduceReplicate, -List.map_map, -List.map_drop, -List.map_take, num, bol, txt, w8, w16, w32, w64, lst, cls, rowO, boxO, List.take_of_length_le, Wr.cellsL_len, wA, Wr.k_mk, Wr.n_mk, Wr.s_mk, Wr.l_mk, Wr.cellsL, Wr.z_eq, rnT, ftT, hq]
 ·skip
  refine a_op ?_
  refine a_op ?_
  refine a_call [] false ((by have h := mayrR_good Γ s.seen hs1; rw [hm] at h; exact h)) ?_
  refine a_op ?_
  refine a_op ?_
  refine a_go ?_
  refine a_go ?_
  refine a_go ?_
  refine a_go ?_
  refine a_op ?_
  refine s_nil (r_false ?_)
  refine q_next ?_
  refine a_false ?_
  refine k_skip ?_
  refine q_next ?_
  refine k_seq ?_
  refine k_seq ?_
  refine k_region rfl ?_
  refine a_op ?_
  refine s_nil (r_false ?_)
  refine q_next ?_
  refine k_block ?_
  refine k_loopF (fun sl L (i : Nat) => ⟨setAll (setBad sl [0, 2, 4, 5, 6, 7, 8, 9, 10, 11, 12, 13, 14, 15, 16, 17, 18, 19, 20, 21, 22, 23, 24, 25, 26, 27, 28, 29, 30, 31, 32, 33, 34, 35, 36, 37, 38, 39, 40, 41, 42, 43, 44, 45, 46, 47, 48, 49, 50, 51, 52, 53, 54]) [(3, .t (num i))], Go.Ot.look (L)⟩) (fun i => i ≤ s.fs.length ∧ ∀ j, j < i → faOk s j) (fun i => s.fs.length - i) (0) (a_le ?_) ?_ ?_
  ·refine le_of [(.r 0 0 0, .r 0 0 0)] ?_ ?_ ?_ <;> simp [-List.map_set, -List.map_replicate, -List.reduceReplicate, -List.map_map, -List.map_drop, -List.map_take, num, bol, txt, w8, w16, w32, w64, lst, cls, rowO, boxO, List.take_of_length_le, Wr.cellsL_len, wA, Wr.k_mk, Wr.n_mk, Wr.s_mk, Wr.l_mk, Wr.cellsL, Wr.z_eq, rnT, ftT]
  ·exact ⟨Nat.zero_le _, fun j hj => by omega⟩
  ·rintro i ⟨hi, hI⟩
   refine a_st ?_
   refine k_seq ?_
   refine k_seq ?_
   refine k_region rfl ?_
   iterate 5 refine a_op ?_
   refine s_nil (r_false ?_)
   refine q_next ?_
   refine a_if (fun hc1 => ?_) (fun hc1 => ?_)
   ·(try simp only [Bool.and_eq_true, Bool.or_eq_true, Bool.or_eq_false_iff, Bool.not_eq_true', Bool.not_eq_false', dec_t, dec_f, Bool.and_eq_false_imp, beq_iff_eq, beq_eq_false_iff_ne, ne_eq] at hc1)
    refine k_skip ?_
    refine q_next ?_
    refine k_seq ?_
    refine k_block ?_
    refine k_seq ?_
    refine k_region rfl ?_
    iterate 5 refine a_op ?_
    obtain ⟨f, he⟩ : ∃ f, s.fs.getD i default = f := ⟨_, rfl⟩
    simp only [he]
    refine a_op ?_
    refine a_op ?_
    refine s_nil (r_false ?_)
    refine q_next ?_
    refine k_seq ?_
    refine k_region rfl ?_
    have h5 : (¬ ftP f) ∨ (ftP f ∧ hasB s.seen f.dev f.n = false) ∨ ((ftP f ∧ hasB s.seen f.dev f.n = true) ∧ i = 0) ∨ ((ftP f ∧ hasB s.seen f.dev f.n = true) ∧ (∃ k, i = k + 1) ∧ cmF (s.fs.getD (i - 1) default) f < 0) ∨ ((ftP f ∧ hasB s.seen f.dev f.n = true) ∧ (∃ k, i = k + 1) ∧ 0 ≤ cmF (s.fs.getD (i - 1) default) f) := by
     by_cases g : ftP f
     ·rcases g2 : hasB s.seen f.dev f.n with _ | _
      ·exact .inr (.inl ⟨g, rfl⟩)
      ·have : i = 0 ∨ ∃ k, i = k + 1 := by cases i with | zero => exact .inl rfl | succ k => exact .inr ⟨k, rfl⟩
       rcases this with h | h
       ·exact .inr (.inr (.inl ⟨⟨g, rfl⟩, h⟩))
       ·rcases (show cmF (s.fs.getD (i - 1) default) f < 0 ∨ 0 ≤ cmF (s.fs.getD (i - 1) default) f by omega) with h2 | h2
        ·exact .inr (.inr (.inr (.inl ⟨⟨g, rfl⟩, h, h2⟩)))
        ·exact .inr (.inr (.inr (.inr ⟨⟨g, rfl⟩, h, h2⟩)))
     ·exact .inl g
    rcases h5 with g | ⟨g, g2⟩ | ⟨⟨g, g2⟩, rfl⟩ | ⟨⟨g, g2⟩, ⟨k, rfl⟩, g3⟩ | ⟨⟨g, g2⟩, ⟨k, rfl⟩, g3⟩
    ·have hq : saB s = false := saB_f (fun h => by have h := h.2 (i) (by omega); have h1 := h.1; rw [he] at h1; exact g h1)
     refine a_opd ?_
     refine a_calld [] false (by have h := rightR_good Γ f; rw [ftB_f g] at h; exact h) ?_
     refine a_opd ?_
     refine a_opd ?_
     refine a_nod ?_
     refine a_nod ?_
     refine a_nod ?_
     refine a_nod ?_
     refine a_nod ?_
     refine a_nod ?_
     refine a_opd ?_
     refine a_opd ?_
     refine a_nod ?_
     refine a_nod ?_
     refine a_nod ?_
     refine a_nod ?_
     refine a_nod ?_
     refine a_nod ?_
     refine a_nod ?_
     refine a_nod ?_
     refine a_nod ?_
     refine a_nod ?_
     try simp only [hq0]
     refine a_nod ?_
     refine a_nod ?_
     refine a_nod ?_
     refine a_nod ?_
     refine a_nod ?_
     refine a_opd ?_
     refine s_nil (r_true (by kernel_rfl) ?_)
     refine q_next ?_
     refine a_true ?_
     refine k_seq ?_
     refine k_region rfl ?_
     refine a_op ?_
     refine s_nil (r_false ?_)
     refine q_next ?_
     refine k_ret ?_
     refine q_block_ret (q_seq_ret (q_loopF_ret (q_block_ret (q_seq_ret ?_))))
     refine ⟨.inr rfl, a_ret [] (by rw [results13]) ?_ ?_ ?_⟩ <;> simp [-List.map_set, -List.map_replicate, -List.reduceReplicate, -List.map_map, -List.map_drop, -List.map_take, num, bol, txt, w8, w16, w32, w64, lst, cls, rowO, boxO, List.take_of_length_le, Wr.cellsL_len, wA, Wr.k_mk, Wr.n_mk, Wr.s_mk, Wr.l_mk, Wr.cellsL, Wr.z_eq, rnT, ftT, hq]
    ·have hq : saB s = false := saB_f (fun h => by have h := h.2 (i) (by omega); have h1 := h.2.1; rw [he, g2] at h1; cases h1)
     refine a_opd ?_
     refine a_calld [] false (by have h := rightR_good Γ f; rw [ftB_t g] at h; exact h) ?_
     refine a_opd ?_
     refine a_opd ?_
     refine a_god ?_
     refine a_god ?_
     refine a_god ?_
     refine a_god ?_
     refine a_callgod [] false (by have h := hasR_good Γ s.seen f.dev f.n hs1; rw [g2] at h; exact h) ?_
     refine a_god ?_
     refine a_opd ?_
     refine a_opd ?_
     refine a_nod ?_
     refine a_nod ?_
     refine a_nod ?_
     refine a_nod ?_
     refine a_nod ?_
     refine a_nod ?_
     refine a_nod ?_
     refine a_nod ?_
     refine a_nod ?_
     refine a_nod ?_
     try simp only [hq0]
     refine a_nod ?_
     refine a_nod ?_
     refine a_nod ?_
     refine a_nod ?_
     refine a_nod ?_
     refine a_opd ?_
     refine s_nil (r_true (by kernel_rfl) ?_)
     refine q_next ?_
     refine a_true ?_
     refine k_seq ?_
     refine k_region rfl ?_
     refine a_op ?_
     refine s_nil (r_false ?_)
     refine q_next ?_
     refine k_ret ?_
     refine q_block_ret (q_seq_ret (q_loopF_ret (q_block_ret (q_seq_ret ?_))))
     refine ⟨.inr rfl, a_ret [] (by rw [results13]) ?_ ?_ ?_⟩ <;> simp [-List.map_set, -List.map_replicate, -List.reduceReplicate, -List.map_map, -List.map_drop, -List.map_take, num, bol, txt, w8, w16, w32, w64, lst, cls, rowO, boxO, List.take_of_length_le, Wr.cellsL_len, wA, Wr.k_mk, Wr.n_mk, Wr.s_mk, Wr.l_mk, Wr.cellsL, Wr.z_eq, rnT, ftT, hq]
    ·have hok : faOk s (0) := ⟨by rw [he]; exact g, by rw [he]; exact g2, fun h => absurd h (by omega)⟩
     refine a_opd ?_
     refine a_calld [] false (by have h := rightR_good Γ f; rw [ftB_t g] at h; exact h) ?_
     refine a_opd ?_
     refine a_opd ?_
     refine a_god ?_
     refine a_god ?_
     refine a_god ?_
     refine a_god ?_
     refine a_callgod [] false (by have h := hasR_good Γ s.seen f.dev f.n hs1; rw [g2] at h; exact h) ?_
     refine a_god ?_
     refine a_opd ?_
     refine a_opd ?_
     refine a_god ?_
     refine a_god ?_
     refine a_god ?_
     refine a_nod ?_
     refine a_nod ?_
     refine a_nod ?_
     refine a_nod ?_
     refine a_nod ?_
     refine a_nod ?_
     refine a_nod ?_
     try simp only [hq0]
     refine a_nod ?_
     refine a_nod ?_
     refine a_nod ?_
     refine a_nod ?_
     refine a_god ?_
     refine a_opd ?_
     refine s_nil (r_true (by kernel_rfl) ?_)
     refine q_next ?_
     refine a_false ?_
     refine k_skip ?_
     refine q_block (q_next ?_)
     refine k_region rfl ?_
     iterate 3 refine a_op ?_
     refine s_nil (r_false ?_)
     refine q_loopF (0 + 1) (a_le ?_) ?_ ?_
     ·refine le_of [(.r 0 0 0, .r 0 0 0)] ?_ ?_ ?_ <;> simp [-List.map_set, -List.map_replicate, -List.reduceReplicate, -List.map_map, -List.map_drop, -List.map_take, num, bol, txt, w8, w16, w32, w64, lst, cls, rowO, boxO, List.take_of_length_le, Wr.cellsL_len, wA, Wr.k_mk, Wr.n_mk, Wr.s_mk, Wr.l_mk, Wr.cellsL, Wr.z_eq, rnT, ftT]
     ·exact ⟨by omega, fun j hj => by rcases Nat.lt_or_eq_of_le (Nat.le_of_lt_succ hj) with e | e; exact hI j e; (subst e; exact hok)⟩
     ·(first | omega | (simp only []; omega))
    ·rw [Nat.add_sub_cancel] at g3
     obtain ⟨q, hq0⟩ : ∃ q, s.fs.getD k default = q := ⟨_, rfl⟩
     rw [hq0, cmF] at g3
     have hok : faOk s (k + 1) := ⟨by rw [he]; exact g, by rw [he]; exact g2, fun _ => by rw [he, Nat.add_sub_cancel, hq0, cmF]; exact g3⟩
     refine a_opd ?_
     refine a_calld [] false (by have h := rightR_good Γ f; rw [ftB_t g] at h; exact h) ?_
     refine a_opd ?_
     refine a_opd ?_
     refine a_god ?_
     refine a_god ?_
     refine a_god ?_
     refine a_god ?_
     refine a_callgod [] false (by have h := hasR_good Γ s.seen f.dev f.n hs1; rw [g2] at h; exact h) ?_
     refine a_god ?_
     refine a_opd ?_
     refine a_opd ?_
     refine a_god ?_
     refine a_god ?_
     refine a_god ?_
     refine a_god ?_
     refine a_god ?_
     refine a_god ?_
     refine a_god ?_
     refine a_god (hs := by (simp (disch := first | omega | (simp only [List.length_drop, List.length_take, List.length_map, List.length_append, List.length_cons, List.length_nil, List.length_replicate, List.length_set] <;> omega) | (simp only [push_cast] <;> omega) | fail) only [push_cast, reduceCtorEq, Nat.reduceAdd, Nat.reduceSub, Nat.reduceMul, Nat.reduceEqDiff, Nat.reduceLT, Nat.reduceLeDiff, Nat.reduceMod, Nat.reduceDiv, Int.reduceLE, Int.reduceLT, Int.reduceEq, Int.reduceToNat, Int.reduceAdd, Int.reduceSub, Int.reduceMul, Int.reduceNeg, show ((k : Int) + 1 - 1) = k from by omega] <;> rfl)) ?_
     refine a_god ?_
     refine a_god ?_
     try simp only [hq0]
     refine a_god ?_
     refine a_god ?_
     refine a_callgod [] false (cmpR_good Γ q.dev q.n f.dev f.n) ?_
     refine a_god ?_
     refine a_god ?_
     refine a_opd ?_
     refine s_nil (r_true (by kernel_rfl) ?_)
     refine q_next ?_
     refine a_false ?_
     refine k_skip ?_
     refine q_block (q_next ?_)
     refine k_region rfl ?_
     iterate 3 refine a_op ?_
     refine s_nil (r_false ?_)
     refine q_loopF (k + 1 + 1) (a_le ?_) ?_ ?_
     ·refine le_of [(.r 0 0 0, .r 0 0 0)] ?_ ?_ ?_ <;> simp [-List.map_set, -List.map_replicate, -List.reduceReplicate, -List.map_map, -List.map_drop, -List.map_take, num, bol, txt, w8, w16, w32, w64, lst, cls, rowO, boxO, List.take_of_length_le, Wr.cellsL_len, wA, Wr.k_mk, Wr.n_mk, Wr.s_mk, Wr.l_mk, Wr.cellsL, Wr.z_eq, rnT, ftT]
     ·exact ⟨by omega, fun j hj => by rcases Nat.lt_or_eq_of_le (Nat.le_of_lt_succ hj) with e | e; exact hI j e; (subst e; exact hok)⟩
     ·(first | omega | (simp only []; omega))
    ·rw [Nat.add_sub_cancel] at g3
     obtain ⟨q, hq0⟩ : ∃ q, s.fs.getD k default = q := ⟨_, rfl⟩
     rw [hq0, cmF] at g3
     have hq : saB s = false := saB_f (fun h => by have h := h.2 (k + 1) (by omega); have h1 := h.2.2 (by omega); rw [he, Nat.add_sub_cancel, hq0, cmF] at h1; omega)
     refine a_opd ?_
     refine a_calld [] false (by have h := rightR_good Γ f; rw [ftB_t g] at h; exact h) ?_
     refine a_opd ?_
     refine a_opd ?_
     refine a_god ?_
     refine a_god ?_
     refine a_god ?_
     refine a_god ?_
     refine a_callgod [] false (by have h := hasR_good Γ s.seen f.dev f.n hs1; rw [g2] at h; exact h) ?_
     refine a_god ?_
     refine a_opd ?_
     refine a_opd ?_
     refine a_god ?_
     refine a_god ?_
     refine a_god ?_
     refine a_god ?_
     refine a_god ?_
     refine a_god ?_
     refine a_god ?_
     refine a_god (hs := by (simp (disch := first | omega | (simp only [List.length_drop, List.length_take, List.length_map, List.length_append, List.length_cons, List.length_nil, List.length_replicate, List.length_set] <;> omega) | (simp only [push_cast] <;> omega) | fail) only [push_cast, reduceCtorEq, Nat.reduceAdd, Nat.reduceSub, Nat.reduceMul, Nat.reduceEqDiff, Nat.reduceLT, Nat.reduceLeDiff, Nat.reduceMod, Nat.reduceDiv, Int.reduceLE, Int.reduceLT, Int.reduceEq, Int.reduceToNat, Int.reduceAdd, Int.reduceSub, Int.reduceMul, Int.reduceNeg, show ((k : Int) + 1 - 1) = k from by omega] <;> rfl)) ?_
     refine a_god ?_
     refine a_god ?_
     try simp only [hq0]
     refine a_god ?_
     refine a_god ?_
     refine a_callgod [] false (cmpR_good Γ q.dev q.n f.dev f.n) ?_
     refine a_god ?_
     refine a_god ?_
     refine a_opd ?_
     refine s_nil (r_true (by kernel_rfl) ?_)
     refine q_next ?_
     refine a_true ?_
     refine k_seq ?_
     refine k_region rfl ?_
     refine a_op ?_
     refine s_nil (r_false ?_)
     refine q_next ?_
     refine k_ret ?_
     refine q_block_ret (q_seq_ret (q_loopF_ret (q_block_ret (q_seq_ret ?_))))
     refine ⟨.inr rfl, a_ret [] (by rw [results13]) ?_ ?_ ?_⟩ <;> simp [-List.map_set, -List.map_replicate, -List.reduceReplicate, -List.map_map, -List.map_drop, -List.map_take, num, bol, txt, w8, w16, w32, w64, lst, cls, rowO, boxO, List.take_of_length_le, Wr.cellsL_len, wA, Wr.k_mk, Wr.n_mk, Wr.s_mk, Wr.l_mk, Wr.cellsL, Wr.z_eq, rnT, ftT, hq]
   ·(try simp only [Bool.and_eq_true, Bool.or_eq_true, Bool.or_eq_false_iff, Bool.not_eq_true', Bool.not_eq_false', dec_t, dec_f, Bool.and_eq_false_imp, beq_iff_eq, beq_eq_false_iff_ne, ne_eq] at hc1)
    refine k_exit ?_
    refine q_seq_exit (q_loopF_exit (q_block_exit (q_next ?_)))
    refine k_seq ?_
    refine k_region rfl ?_
    have hq : saB s = true := saB_iff.2 ⟨⟨hm, h4⟩, fun j hj => hI j (by omega)⟩
    refine a_op ?_
    refine s_nil (r_false ?_)
    refine q_next ?_
    refine k_ret ?_
    refine ⟨.inr rfl, a_ret [] (by rw [results13]) ?_ ?_ ?_⟩ <;> simp [-List.map_set, -List.map_replicate, -List.reduceReplicate, -List.map_map, -List.map_drop, -List.map_take, num, bol, txt, w8, w16, w32, w64, lst, cls, rowO, boxO, List.take_of_length_le, Wr.cellsL_len, wA, Wr.k_mk, Wr.n_mk, Wr.s_mk, Wr.l_mk, Wr.cellsL, Wr.z_eq, rnT, ftT, hq]

end Go.Proofs.Tryd
