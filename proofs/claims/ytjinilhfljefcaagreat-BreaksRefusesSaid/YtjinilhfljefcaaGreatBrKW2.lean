/- Proved here: what is asked of a run comes to, in whatever order a map is gone through. No conditions. -/
import Derived.Test.YtjinilhfljefcaaGreatBrE
import Derived.Test.YtjinilhfljefcaaGreatBrKI
set_option linter.unusedVariables false
namespace Go.Proofs.YtjinilhfljefcaaGreat.Br
open Go Go.Am Go.Proofs
set_option maxHeartbeats 0
theorem runKW2 : chkW entKW2 (callN Tryz.prog (memoOf 100 [entKI1, entKI2, entKI3]) 1000000 entKW2.g entKW2.args .leaf 0) = true := by kernel_rfl
theorem okKW2 : EntOK Tryz.prog entKW2 := chkW_ok mixed (memoOf_ok (by simp only [List.mem_cons, List.not_mem_nil, or_false, forall_eq_or_imp, forall_eq]; exact ⟨okKI1, okKI2, okKI3⟩)) runKW2
end Go.Proofs.YtjinilhfljefcaaGreat.Br
