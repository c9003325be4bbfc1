/- Proved here: what the machine's operations come to. No conditions. -/
import Derived.Test.YtjinilhfljefcaaGreatBrE
import Derived.Test.YtjinilhfljefcaaGreatBrKV
set_option linter.unusedVariables false
namespace Go.Proofs.YtjinilhfljefcaaGreat.Br
open Go Go.Am Go.Proofs
set_option maxHeartbeats 0
theorem runKD1 : chkE Tryz.prog (memoOf 100 [entKV1]) 1000000 entKD1 = true := by kernel_rfl
theorem okKD1 : EntOK Tryz.prog entKD1 := chkE_ok mixed (memoOf_ok (by simp only [List.mem_cons, List.not_mem_nil, or_false, forall_eq]; exact okKV1)) runKD1
theorem runKD2 : chkE Tryz.prog (memoOf 100 [entKV1]) 1000000 entKD2 = true := by kernel_rfl
theorem okKD2 : EntOK Tryz.prog entKD2 := chkE_ok mixed (memoOf_ok (by simp only [List.mem_cons, List.not_mem_nil, or_false, forall_eq]; exact okKV1)) runKD2
theorem runKD3 : chkE Tryz.prog (memoOf 100 [entKV1]) 1000000 entKD3 = true := by kernel_rfl
theorem okKD3 : EntOK Tryz.prog entKD3 := chkE_ok mixed (memoOf_ok (by simp only [List.mem_cons, List.not_mem_nil, or_false, forall_eq]; exact okKV1)) runKD3
end Go.Proofs.YtjinilhfljefcaaGreat.Br
