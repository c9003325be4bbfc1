/- Proved here: what the verifier comes to on the two modules. No conditions. -/
import Derived.Test.YtjinilhfljefcaaGreatBrE
set_option linter.unusedVariables false
namespace Go.Proofs.YtjinilhfljefcaaGreat.Br
open Go Go.Am Go.Proofs
set_option maxHeartbeats 0
theorem runBV1 : chkE Tryz.prog (fun _ _ _ _ => .stuck) 1000000 entBV1 = true := by kernel_rfl
theorem okBV1 : EntOK Tryz.prog entBV1 := chkE_ok mixed memo_none runBV1
theorem runBP1 : chkE Tryz.prog (fun _ _ _ _ => .stuck) 1000000 entBP1 = true := by kernel_rfl
theorem okBP1 : EntOK Tryz.prog entBP1 := chkE_ok mixed memo_none runBP1
theorem runKV1 : chkE Tryz.prog (fun _ _ _ _ => .stuck) 1000000 entKV1 = true := by kernel_rfl
theorem okKV1 : EntOK Tryz.prog entKV1 := chkE_ok mixed memo_none runKV1
theorem runKP1 : chkE Tryz.prog (fun _ _ _ _ => .stuck) 1000000 entKP1 = true := by kernel_rfl
theorem okKP1 : EntOK Tryz.prog entKP1 := chkE_ok mixed memo_none runKP1
end Go.Proofs.YtjinilhfljefcaaGreat.Br
