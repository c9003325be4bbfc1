/- Proved here: a part of what BreaksRefuses comes to. No conditions. -/
import Derived.Test.YtjinilhfljefcaaGreatBrBz
import Derived.Test.YtjinilhfljefcaaGreatBrO
set_option linter.unusedVariables false
namespace Go.Proofs.YtjinilhfljefcaaGreat.Br
open Go Go.Am Go.Proofs
set_option maxHeartbeats 0
set_option maxRecDepth 100000
theorem passes (n : Int) : (List.range 71).map (fun m => told 219 (psT n 701) (LT 701) 10000 (KN 3 false false c6 (canon 219 (psX (.ofNat m) n) LX 3000))) = (List.range 71).map (fun m => want (psT n 701)) := by kernel_rfl
theorem tailX_lo (k : Nat) : fin r7 (sT (.negSucc (k + 1)) 701) = true := by kernel_rfl
theorem tailX_hi (k : Nat) : fin r7 (sT (.ofNat (k + 6)) 701) = true := by kernel_rfl
theorem tailX_m : fin r7 (sT (-1) 701) = true := by kernel_rfl
theorem tailX_n : (List.range 6).map (fun n => fin r7 (sT (.ofNat n) 701)) = (List.range 6).map (fun _ => true) := by kernel_rfl
end Go.Proofs.YtjinilhfljefcaaGreat.Br
