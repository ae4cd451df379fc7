/- Contracts of this program's functions. -/
import Derived.Test.YtknmmpgpddhliaaDoorSV1
set_option maxHeartbeats 4000000
set_option maxRecDepth 100000
set_option linter.unusedVariables false
set_option linter.unusedSimpArgs false
namespace Go.Proofs.Tryd
open Go Go.Ot

open Ce
theorem Kp_one (s : List UInt8) : Kp (Ce.upd (fun _ => []) 1 (enc (0 + 1) s)) 1 s := Kp_next (u := s) Kp_0
theorem Kp_two (s z : List UInt8) : Kp (Ce.upd (Ce.upd (fun _ => []) 1 (enc (0 + 1) s)) 0 (enc (1 + 1) z)) 2 z := Kp_next (u := z) (Kp_one s)

end Go.Proofs.Tryd
