/- Proved here: what the compiler comes to on a program. No conditions. -/
import Derived.Test.YtjinilhfljefcaaGreatBrE
import Derived.Test.YtjinilhfljefcaaGreatBrBV
set_option linter.unusedVariables false
namespace Go.Proofs.YtjinilhfljefcaaGreat.Br
open Go Go.Am Go.Proofs
set_option maxHeartbeats 0
theorem runBM1 : chkE Tryz.prog (memoOf 100 [entBV1]) 1000000 entBM1 = true := by kernel_rfl
theorem okBM1 : EntOK Tryz.prog entBM1 := chkE_ok mixed (memoOf_ok (by simp only [List.mem_cons, List.not_mem_nil, or_false, forall_eq]; exact okBV1)) runBM1
end Go.Proofs.YtjinilhfljefcaaGreat.Br
