/- Proved here: what the machine's operations come to in the run of this law's known program. No conditions. -/
import Derived.Test.YtodicoepcffjoaaGreatDeV
set_option linter.unusedVariables false
namespace Go.Proofs.YtodicoepcffjoaaGreat.De
open Go Go.Am Go.Proofs
set_option maxHeartbeats 0 in
theorem runD1 : chkE Tryz.prog (memoOf 100 [entV1]) 1000000 entD1 = true := by kernel_rfl
theorem okD1 : EntOK Tryz.prog entD1 := chkE_ok mixed (memoOf_ok (by simp only [List.mem_cons, List.not_mem_nil, or_false, forall_eq]; exact okV1)) runD1
set_option maxHeartbeats 0 in
theorem runD2 : chkE Tryz.prog (memoOf 100 [entV1]) 1000000 entD2 = true := by kernel_rfl
theorem okD2 : EntOK Tryz.prog entD2 := chkE_ok mixed (memoOf_ok (by simp only [List.mem_cons, List.not_mem_nil, or_false, forall_eq]; exact okV1)) runD2
end Go.Proofs.YtodicoepcffjoaaGreat.De
