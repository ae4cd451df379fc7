/- Contracts of this program's functions. -/
import Derived.Test.YtppicdhlpdhoiaaDoorSC0
set_option maxHeartbeats 4000000
set_option maxRecDepth 100000
set_option linter.unusedVariables false
set_option linter.unusedSimpArgs false
namespace Go.Proofs.Tryd
open Go Go.Ot

theorem mayW_z : mayW 0 = mayS false (fun _ => false) := rfl
theorem mayW_s (d : Nat) : mayW (d + 1) = mayS true (mayW d) := rfl
theorem putW_z : putW 0 = putS (fun _ => []) := rfl
theorem putW_s (d : Nat) : putW (d + 1) = putS (putW d) := rfl
end Go.Proofs.Tryd
