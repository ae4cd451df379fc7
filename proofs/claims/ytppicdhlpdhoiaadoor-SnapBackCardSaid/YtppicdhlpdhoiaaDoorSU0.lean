/- Contracts of this program's functions. -/
import Derived.Test.YtppicdhlpdhoiaaDoorST0
import Derived.Test.YtppicdhlpdhoiaaDoorSP2
set_option maxHeartbeats 4000000
set_option maxRecDepth 100000
set_option linter.unusedVariables false
set_option linter.unusedSimpArgs false
namespace Go.Proofs.Tryd
open Go Go.Ot

def rdD2 (w : Wr) (n : Int) : D := .agg [.t (num w.k), .t (num w.n), .t (txt w.s), .t (.sl w.l.length (Wr.cellsL w.l)), .t (num n)]
@[push_cast] theorem rdD2_eq (w : Wr) (n : Int) : rdD2 w n = .agg [.t (num w.k), .t (num w.n), .t (txt w.s), .t (.sl w.l.length (Wr.cellsL w.l)), .t (num n)] := rfl
/-! the cases of what is read -/
theorem got_def (s : List UInt8) : got s = match getW 6 s with | some (w, []) => some w | _ => none := rfl
theorem got_2 {s : List UInt8} {w : Wr} {a : UInt8} {r : List UInt8} (h : getW 6 s = some (w, a :: r)) : got s = none := by rw [got_def, h]
end Go.Proofs.Tryd
