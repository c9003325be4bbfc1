/- Proved here: what the compiler comes to on the two programs. No conditions. -/
import Derived.Test.YtjinilhfljefcaaGreatBrE
set_option linter.unusedVariables false
namespace Go.Proofs.YtjinilhfljefcaaGreat.Br
open Go Go.Am Go.Proofs
set_option maxHeartbeats 0
theorem runBM1 : chkE Tryz.prog (fun _ _ _ _ => .stuck) 1000000 entBM1 = true := by kernel_rfl
theorem okBM1 : EntOK Tryz.prog entBM1 := chkE_ok mixed memo_none runBM1
theorem runKM1 : chkE Tryz.prog (fun _ _ _ _ => .stuck) 1000000 entKM1 = true := by kernel_rfl
theorem okKM1 : EntOK Tryz.prog entKM1 := chkE_ok mixed memo_none runKM1
end Go.Proofs.YtjinilhfljefcaaGreat.Br
