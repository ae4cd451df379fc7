/- Contracts of this program's functions. -/
import Derived.Test.YtlacdlafoclaeaaDoorSQ2
import Derived.Test.YtlacdlafoclaeaaDoorOtE
set_option maxHeartbeats 4000000
set_option maxRecDepth 100000
set_option linter.unusedVariables false
set_option linter.unusedSimpArgs false
namespace Go.Proofs.Tryd
open Go Go.Ot

theorem eqin_rq (q r : Rq) (w : World) : (Op.equalIn 10000 23 (.agg #[.int .i64 q.k, .int .i64 q.d, .int .i64 q.n, .string (S q.b)]) (.agg #[.int .i64 r.k, .int .i64 r.d, .int .i64 r.n, .string (S r.b)])).run Tryd.prog w = .ok (decide (q = r)) w := by
  have hS : Tryd.prog.underlying 23 = some (.struct (Tryd.prog.fieldsOf 23)) := by kernel_rfl
  have hp : Tryd.prog.stoodInHeld 23 = false := by kernel_rfl
  have p0 : ∀ a b c e : Value, (Go.part 3 #[a, b, c, e] 0).run Tryd.prog w = .ok a w := fun a b c e => by kernel_rfl
  have p1 : ∀ a b c e : Value, (Go.part 3 #[a, b, c, e] 1).run Tryd.prog w = .ok b w := fun a b c e => by kernel_rfl
  have p2 : ∀ a b c e : Value, (Go.part 3 #[a, b, c, e] 2).run Tryd.prog w = .ok c w := fun a b c e => by kernel_rfl
  have p3 : ∀ a b c e : Value, (Go.part 9 #[a, b, c, e] 3).run Tryd.prog w = .ok e w := fun a b c e => by kernel_rfl
  have e3 : ∀ a b : Int, (Op.equalIn 9999 3 (.int .i64 a) (.int .i64 b)).run Tryd.prog w = .ok (a == b) w := fun a b => run_equalIn_int w 9998 3 .i64 .i64 a b Tryd.underlying3
  have e9 : ∀ a b : ByteArray, (Op.equalIn 9999 9 (.string a) (.string b)).run Tryd.prog w = .ok (a.toList == b.toList) w := fun a b => run_equalIn_string w 9998 9 a b Tryd.underlying9
  rw [show (10000 : Nat) = 9999 + 1 from rfl, run_equalIn_agg w 9999 23 _ _ hS hp]
  simp only [Program.fieldsOf, Tryd.underlying23]
  rw [← rqE_iff, rqE]
  have hl : ∀ a : List UInt8, (S a).toList = a := fun a => by simp [S]
  simp [Op.eqFields, p0, p1, p2, p3, e3, e9, Result.andThen, hl]
  by_cases h1 : q.k = r.k <;> by_cases h2 : q.d = r.d <;> by_cases h3 : q.n = r.n <;> by_cases h4 : q.b = r.b <;> simp [h1, h2, h3, h4]
theorem eq_rq {q r : Rq} {b : Bool} (h : decide (q = r) = b) (w : World) : (binOp .eql 23 (.agg #[.int .i64 q.k, .int .i64 q.d, .int .i64 q.n, .string (S q.b)]) (.agg #[.int .i64 r.k, .int .i64 r.d, .int .i64 r.n, .string (S r.b)])).run Tryd.prog w = .ok (.bool b) w := by
  rw [run_eql_struct, eqin_rq, h]; rfl
theorem ne_rq {q r : Rq} {b : Bool} (h : decide (q = r) = b) (w : World) : (binOp .neq 23 (.agg #[.int .i64 q.k, .int .i64 q.d, .int .i64 q.n, .string (S q.b)]) (.agg #[.int .i64 r.k, .int .i64 r.d, .int .i64 r.n, .string (S r.b)])).run Tryd.prog w = .ok (.bool (!b)) w := by
  rw [run_neq_struct, eqin_rq, h]; rfl

end Go.Proofs.Tryd
