/- Proved here: a part of what BreaksRefuses comes to. No conditions. -/
import Derived.Test.YtjinilhfljefcaaGreatBrS
set_option linter.unusedVariables false
namespace Go.Proofs.YtjinilhfljefcaaGreat.Br
open Go Go.Am Go.Proofs
set_option maxHeartbeats 0
set_option maxRecDepth 100000
noncomputable def fin (c : Code) (s : ES) : Bool := trueC (endOf Tryz.prog Tryz.f3 (dBody Tryz.prog KN) (KN 3 false false c s))
theorem out_lo (k : Nat) (m n : Int) : fin body (sA (.negSucc (k + 1)) m n) = true := by kernel_rfl
theorem out_hi (k : Nat) (m n : Int) : fin body (sA (.ofNat (k + 2)) m n) = true := by kernel_rfl
theorem lo_m (k : Nat) (n : Int) : fin body (sA (-1) (.negSucc (k + 1)) n) = true := by kernel_rfl
theorem lo1_m (n : Int) : fin body (sA (-1) (-1) n) = true := by kernel_rfl
theorem lo_0 (k : Nat) (n : Int) : fin body (sA 0 (.negSucc (k + 1)) n) = true := by kernel_rfl
theorem lo1_0 (n : Int) : fin body (sA 0 (-1) n) = true := by kernel_rfl
theorem lo_1 (k : Nat) (n : Int) : fin body (sA 1 (.negSucc (k + 1)) n) = true := by kernel_rfl
theorem lo1_1 (n : Int) : fin body (sA 1 (-1) n) = true := by kernel_rfl
theorem hi_m (k : Nat) (n : Int) : fin body (sA (-1) (.ofNat (k + 71)) n) = true := by kernel_rfl
theorem hi_0 (k : Nat) (n : Int) : fin body (sA 0 (.ofNat (k + 71)) n) = true := by kernel_rfl
theorem hi_1 (k : Nat) (n : Int) : fin body (sA 1 (.ofNat (k + 71)) n) = true := by kernel_rfl
end Go.Proofs.YtjinilhfljefcaaGreat.Br
