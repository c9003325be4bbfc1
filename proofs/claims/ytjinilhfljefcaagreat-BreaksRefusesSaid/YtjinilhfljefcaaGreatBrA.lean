/- Proved here: a part of what BreaksRefuses comes to. No conditions. -/
import Derived.Test.YtjinilhfljefcaaGreatBrS
set_option linter.unusedVariables false
namespace Go.Proofs.YtjinilhfljefcaaGreat.Br
open Go Go.Am Go.Proofs
set_option maxHeartbeats 0
set_option maxRecDepth 100000
theorem in_m (n : Int) : (List.range 71).map (fun m => told 219 (psA (-1) (.ofNat m) n) LA 1 (runL KN 3 [c0, c1] (sA (-1) (.ofNat m) n))) = (List.range 71).map (fun m => want (psA (-1) (.ofNat m) n)) := by kernel_rfl
theorem in_0 (n : Int) : (List.range 71).map (fun m => told 219 (psA 0 (.ofNat m) n) LA 1 (runL KN 3 [c0, c1] (sA 0 (.ofNat m) n))) = (List.range 71).map (fun m => want (psA 0 (.ofNat m) n)) := by kernel_rfl
theorem in_1 (n : Int) : (List.range 71).map (fun m => told 219 (psA 1 (.ofNat m) n) LA 1 (runL KN 3 [c0, c1] (sA 1 (.ofNat m) n))) = (List.range 71).map (fun m => want (psA 1 (.ofNat m) n)) := by kernel_rfl
end Go.Proofs.YtjinilhfljefcaaGreat.Br
