/- Proved here: what the parser comes to on the text of this law's known program. No conditions. -/
import Derived.Test.YtodicoepcffjoaaGreatDeE
set_option linter.unusedVariables false
namespace Go.Proofs.YtodicoepcffjoaaGreat.De
open Go Go.Am Go.Proofs
set_option maxHeartbeats 0 in
theorem runT1 : chkE Tryz.prog (fun _ _ _ _ => .stuck) 1000000 entT1 = true := by kernel_rfl
theorem okT1 : EntOK Tryz.prog entT1 := chkE_ok mixed memo_none runT1
end Go.Proofs.YtodicoepcffjoaaGreat.De
