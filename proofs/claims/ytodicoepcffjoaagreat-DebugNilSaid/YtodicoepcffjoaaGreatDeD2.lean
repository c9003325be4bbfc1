/- Proved here: what the machine's operations come to in the run of this law's known program. No conditions. -/
import Derived.Test.YtodicoepcffjoaaGreatDeV
set_option linter.unusedVariables false
namespace Go.Proofs.YtodicoepcffjoaaGreat.De
open Go Go.Am Go.Proofs
set_option maxHeartbeats 0 in
theorem runD3 : chkE Tryz.prog (memoOf 100 [entV1]) 1000000 entD3 = true := by kernel_rfl
theorem okD3 : EntOK Tryz.prog entD3 := chkE_ok mixed (memoOf_ok (by simp only [List.mem_cons, List.not_mem_nil, or_false, forall_eq]; exact okV1)) runD3
set_option maxHeartbeats 0 in
theorem runD4 : chkE Tryz.prog (memoOf 100 [entV1]) 1000000 entD4 = true := by kernel_rfl
theorem okD4 : EntOK Tryz.prog entD4 := chkE_ok mixed (memoOf_ok (by simp only [List.mem_cons, List.not_mem_nil, or_false, forall_eq]; exact okV1)) runD4
end Go.Proofs.YtodicoepcffjoaaGreat.De
