/- Proved here: what the machine's operations come to. No conditions. -/
import Derived.Test.YtjinilhfljefcaaGreatBrE
import Derived.Test.YtjinilhfljefcaaGreatBrBV
set_option linter.unusedVariables false
namespace Go.Proofs.YtjinilhfljefcaaGreat.Br
open Go Go.Am Go.Proofs
set_option maxHeartbeats 0
theorem runBD1 : chkE Tryz.prog (memoOf 100 [entBV1]) 1000000 entBD1 = true := by kernel_rfl
theorem okBD1 : EntOK Tryz.prog entBD1 := chkE_ok mixed (memoOf_ok (by simp only [List.mem_cons, List.not_mem_nil, or_false, forall_eq]; exact okBV1)) runBD1
theorem runBD2 : chkE Tryz.prog (memoOf 100 [entBV1]) 1000000 entBD2 = true := by kernel_rfl
theorem okBD2 : EntOK Tryz.prog entBD2 := chkE_ok mixed (memoOf_ok (by simp only [List.mem_cons, List.not_mem_nil, or_false, forall_eq]; exact okBV1)) runBD2
theorem runBD3 : chkE Tryz.prog (memoOf 100 [entBV1]) 1000000 entBD3 = true := by kernel_rfl
theorem okBD3 : EntOK Tryz.prog entBD3 := chkE_ok mixed (memoOf_ok (by simp only [List.mem_cons, List.not_mem_nil, or_false, forall_eq]; exact okBV1)) runBD3
end Go.Proofs.YtjinilhfljefcaaGreat.Br
