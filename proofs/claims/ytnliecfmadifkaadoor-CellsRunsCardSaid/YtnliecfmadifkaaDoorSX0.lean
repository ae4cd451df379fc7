/- Contracts of this program's functions. -/
import Derived.Test.YtnliecfmadifkaaDoorSC3
import Derived.Test.YtnliecfmadifkaaDoorSC5
set_option maxHeartbeats 4000000
set_option maxRecDepth 100000
set_option linter.unusedVariables false
set_option linter.unusedSimpArgs false
namespace Go.Proofs.Tryd
open Go Go.Ot

theorem chL_g0 : ∀ {l : Chs} {k : Nat}, k < l.length → (chL l).getD (k * 2) (num 0) = num ((l.getD k default).1 : Int)
  | x :: l, 0, _ => rfl
  | x :: l, k + 1, h => by
    have := chL_g0 (l := l) (k := k) (by simpa using h)
    rw [show (k + 1) * 2 = k * 2 + 1 + 1 from by omega, chL, List.getD_cons_succ, List.getD_cons_succ, this]; simp
theorem chL_g1 : ∀ {l : Chs} {k : Nat}, k < l.length → (chL l).getD (k * 2 + 1) (num 0) = txt (l.getD k default).2
  | x :: l, 0, _ => rfl
  | x :: l, k + 1, h => by
    have := chL_g1 (l := l) (k := k) (by simpa using h)
    rw [show (k + 1) * 2 + 1 = k * 2 + 1 + 1 + 1 from by omega, chL, List.getD_cons_succ, List.getD_cons_succ, this]; simp
theorem getD_map_t {cs : List T} {i : Nat} {d : T} (h : i < cs.length) : (cs.map D.t).getD i .bad = .t (cs.getD i d) := by
  simp [List.getD_eq_getElem?_getD, List.getElem?_map, List.getElem?_eq_getElem h]
@[push_cast] theorem chL_get0 {l : Chs} {k : Nat} (h : k < l.length) : ((chL l).map D.t).getD (k * 2) .bad = .t (num ((l.getD k default).1 : Int)) := by
  rw [getD_map_t (d := num 0) (by rw [chL_len]; omega), chL_g0 h]
@[push_cast] theorem chL_get1 {l : Chs} {k : Nat} (h : k < l.length) : ((chL l).map D.t).getD (k * 2 + 1) .bad = .t (txt (l.getD k default).2) := by
  rw [getD_map_t (d := num 0) (by rw [chL_len]; omega), chL_g1 h]

end Go.Proofs.Tryd
