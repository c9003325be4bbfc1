/- Proved here: when a stop stops. No conditions. -/
import Derived.Test.YtjinilhfljefcaaGreatBrE
set_option linter.unusedVariables false
namespace Go.Proofs.YtjinilhfljefcaaGreat.Br
open Go Go.Am Go.Proofs
set_option maxHeartbeats 0
theorem runKI1 : chkE Tryz.prog (fun _ _ _ _ => .stuck) 1000000 entKI1 = true := by kernel_rfl
theorem okKI1 : EntOK Tryz.prog entKI1 := chkE_ok mixed memo_none runKI1
theorem runKI2 : chkE Tryz.prog (fun _ _ _ _ => .stuck) 1000000 entKI2 = true := by kernel_rfl
theorem okKI2 : EntOK Tryz.prog entKI2 := chkE_ok mixed memo_none runKI2
theorem runKI3 : chkE Tryz.prog (fun _ _ _ _ => .stuck) 1000000 entKI3 = true := by kernel_rfl
theorem okKI3 : EntOK Tryz.prog entKI3 := chkE_ok mixed memo_none runKI3
end Go.Proofs.YtjinilhfljefcaaGreat.Br
