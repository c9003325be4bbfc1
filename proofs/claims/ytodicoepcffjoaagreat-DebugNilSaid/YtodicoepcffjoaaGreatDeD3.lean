/- Proved here: what the machine's operations come to in the run of this law's known program. No conditions. -/
import Derived.Test.YtodicoepcffjoaaGreatDeV
set_option linter.unusedVariables false
namespace Go.Proofs.YtodicoepcffjoaaGreat.De
open Go Go.Am Go.Proofs
set_option maxHeartbeats 0 in
theorem runD5 : chkE Tryz.prog (memoOf 100 [entV1]) 1000000 entD5 = true := by kernel_rfl
theorem okD5 : EntOK Tryz.prog entD5 := chkE_ok mixed (memoOf_ok (by simp only [List.mem_cons, List.not_mem_nil, or_false, forall_eq]; exact okV1)) runD5
set_option maxHeartbeats 0 in
theorem runD6 : chkE Tryz.prog (memoOf 100 [entV1]) 1000000 entD6 = true := by kernel_rfl
theorem okD6 : EntOK Tryz.prog entD6 := chkE_ok mixed (memoOf_ok (by simp only [List.mem_cons, List.not_mem_nil, or_false, forall_eq]; exact okV1)) runD6
end Go.Proofs.YtodicoepcffjoaaGreat.De
