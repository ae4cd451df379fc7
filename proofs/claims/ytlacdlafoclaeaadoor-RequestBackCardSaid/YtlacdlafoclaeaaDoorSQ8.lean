/- Contracts of this program's functions. -/
import Derived.Test.YtlacdlafoclaeaaDoorSQS
set_option maxHeartbeats 4000000
set_option maxRecDepth 100000
set_option linter.unusedVariables false
set_option linter.unusedSimpArgs false
namespace Go.Proofs.Tryd
open Go Go.Ot

theorem nq_rq {q r : Rq} {b : Bool} (h : (!decide (q = r)) = b) (w : World) : (binOp .neq 23 (.agg #[.int .i64 q.k, .int .i64 q.d, .int .i64 q.n, .string (S q.b)]) (.agg #[.int .i64 r.k, .int .i64 r.d, .int .i64 r.n, .string (S r.b)])).run Tryd.prog w = .ok (.bool b) w := by
  rw [← h]; exact ne_rq rfl w
theorem gp_len {s : List UInt8} {p : Rp} (h : GP s = some p) : p.l.length ≤ s.length := by
  obtain ⟨_, h1, _, h2, _⟩ := GP_some h
  have h3 : p.p.length = 37 + tsz p.l := by show (PutW p.w).length = _; rw [PutW_t h2]; exact rpW_len p.k p.d p.n p.l
  have h4 := tsz_len p.l
  rw [h1] at h3
  omega
theorem rq_back {r : Rq} (m : mayW 6 r.w = true) (or : r.ok) : GQ r.p = some r ∧ (r.p == []) = false ∧ (∀ c, c < r.p.length → GQ (r.p.take c) = none) ∧ GQ (r.p ++ [0]) = none := by
  have hr := rqW_rng or.1 or.2.1 or.2.2 (b := r.b)
  have hg : got r.p = some r.w := got_PutW m hr
  refine ⟨GQ_p m or, beq_ne (PutW_ne m), fun c hc => GQ_no (got_take hg hc), GQ_no (got_more m hr)⟩
theorem rp_back {r : Rp} (m : mayW 6 r.w = true) (or : r.ok) : GP r.p = some r ∧ (r.p == []) = false ∧ (∀ c, c < r.p.length → GP (r.p.take c) = none) ∧ GP (r.p ++ [0]) = none := by
  have hr := rpW_rng or.1 or.2.1 or.2.2 (l := r.l)
  have hg : got r.p = some r.w := got_PutW m hr
  refine ⟨GP_p m or, beq_ne (PutW_ne m), fun c hc => GP_no (got_take hg hc), GP_no (got_more m hr)⟩
theorem rq_turned {r q : Rq} {i : Nat} {b : UInt8} (hi : i < r.p.length) (hb : b ≠ 0) (h : GQ (r.p.set i (r.p.getD i 0 ^^^ b)) = some q) : decide (q = r) = false := by
  refine decide_eq_false fun e => ?_
  have h1 := (GQ_some h).2.1
  rw [e] at h1
  exact set_ne hi hb h1.symm
theorem rp_turned {r q : Rp} {i : Nat} {b : UInt8} (hi : i < r.p.length) (hb : b ≠ 0) (h : GP (r.p.set i (r.p.getD i 0 ^^^ b)) = some q) : decide (q = r) = false := by
  refine decide_eq_false fun e => ?_
  have h1 := (GP_some h).2.1
  rw [e] at h1
  exact set_ne hi hb h1.symm

end Go.Proofs.Tryd
