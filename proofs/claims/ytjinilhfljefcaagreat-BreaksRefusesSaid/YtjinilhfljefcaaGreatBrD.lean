/- Proved here: a part of what BreaksRefuses comes to. No conditions. -/
import Derived.Test.YtjinilhfljefcaaGreatBrC0
import Derived.Test.YtjinilhfljefcaaGreatBrO
set_option linter.unusedVariables false
namespace Go.Proofs.YtjinilhfljefcaaGreat.Br
open Go Go.Am Go.Proofs
set_option maxHeartbeats 0
set_option maxRecDepth 100000
theorem tail_lo (k : Nat) : fin r7 (sT (.negSucc (k + 1)) 2950) = true := by kernel_rfl
theorem tail_hi (k : Nat) : fin r7 (sT (.ofNat (k + 6)) 2950) = true := by kernel_rfl
theorem tail_m : fin r7 (sT (-1) 2950) = true := by kernel_rfl
theorem tail_n : (List.range 6).map (fun n => fin r7 (sT (.ofNat n) 2950)) = (List.range 6).map (fun _ => true) := by kernel_rfl
end Go.Proofs.YtjinilhfljefcaaGreat.Br
