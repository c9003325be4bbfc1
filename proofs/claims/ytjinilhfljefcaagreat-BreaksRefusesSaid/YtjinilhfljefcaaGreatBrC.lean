/- Proved here: a part of what BreaksRefuses comes to. No conditions. -/
import Derived.Test.YtjinilhfljefcaaGreatBrC0
set_option linter.unusedVariables false
namespace Go.Proofs.YtjinilhfljefcaaGreat.Br
open Go Go.Am Go.Proofs
set_option maxHeartbeats 0
set_option maxRecDepth 100000
theorem begins (m n : Int) : told 219 (psC m n 0) (LC 0) (NC 0) (KN 3 false false c8 (sB m n)) = want (psC m n 0) := by kernel_rfl
theorem leaves (n : Int) : (List.range 71).map (fun i => toldX 0 219 (psT n 2950) (LT 2950) 10000 (KN 3 false false lb (sC (.ofNat i) n i))) = (List.range 71).map (fun i => want (psT n 2950)) := by kernel_rfl
theorem rounds (k : Nat) (n : Int) : (List.range 70).map (fun i => told 219 (psC (.ofNat (k + (i + 1))) n (i + 1)) (LC (i + 1)) (NC (i + 1)) (KN 3 false false lb (sC (.ofNat (k + (i + 1))) n i))) = (List.range 70).map (fun i => want (psC (.ofNat (k + (i + 1))) n (i + 1))) := by kernel_rfl
end Go.Proofs.YtjinilhfljefcaaGreat.Br
