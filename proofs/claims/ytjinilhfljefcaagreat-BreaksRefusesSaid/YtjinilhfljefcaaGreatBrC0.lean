/- Proved here: a part of what BreaksRefuses comes to. No conditions. -/
import Derived.Test.YtjinilhfljefcaaGreatBrS
set_option linter.unusedVariables false
namespace Go.Proofs.YtjinilhfljefcaaGreat.Br
open Go Go.Am Go.Proofs
noncomputable def c8 : Code := headL c6
noncomputable def lb : Code := match tailL c6 with | .block _ c => (match c with | .loop b => b | _ => .skip) | _ => .skip
theorem c6_is : c6 = .seq c8 (.block 0 (.loop lb)) := by kernel_rfl
section
variable (m n : Int)
/-- The cells of the run, behind so many stops. -/
def rc (s : AV) : List AV := [.ptr 1154 0, .slice 196 0 1 1 1 false, .nilSlice, .int .i64 0, .int .i64 0, .nilSlice, .slice 245 0 1 1 3 false, .int .i64 0, .int .i64 1, .slice 198 0 1 1 1 false, .nilSlice, .nilSlice, .nilSlice, .nilSlice, .slice 2944 0 1 1 9 false, .int .i64 1, s]
/-- Behind 'New', where it is well: the run; where it is not: none. -/
def psB : List (Nat × AV) := [(1, .int .i64 m), (2, .int .i64 n), (6, .ptr 0 0), (9, .ptr 2056 0), (10, .int .i64 0), (11, .ptr 2950 0)]
def LB : List (Nat × List AV) := [(0, [.bool false]), (2056, rc .nilSlice), (2950, xs)]
noncomputable def sB : ES := canon 219 (psB m n) LB 3000
/-- At the loop's head, i rounds behind it. -/
def psC (i : Nat) : List (Nat × AV) := [(1, .int .i64 m), (2, .int .i64 n), (6, .ptr 0 0), (9, .ptr 2056 0), (10, .int .i64 0), (11, .ptr 2950 0), (12, .int .i64 (.ofNat i))]
def upTo (i : Nat) : Nat := cond (Nat.ble i 64) i 64
def reps (i : Nat) : List AV := Nat.rec (motive := fun _ => List AV) [] (fun _ ih => xs ++ ih) i
def slot (i : Nat) : Nat := 2999 + 4 * i
def LCp (i : Nat) : List (Nat × List AV) := [(0, [.bool false]), (2056, rc (.slice (slot i) 0 i i 6 false)), (2950, xs), (slot i, reps i)]
def LC (i : Nat) : List (Nat × List AV) := cond (Nat.beq i 0) LB (LCp (upTo i))
def NC (i : Nat) : Nat := 3000 + 4 * i
noncomputable def sC (i : Nat) : ES := canon 219 (psC m n i) (LC i) (NC i)
/-- Behind the loop. -/
def psT (b : Nat) : List (Nat × AV) := [(2, .int .i64 n), (6, .ptr 0 0), (11, .ptr b 0)]
def LT (b : Nat) : List (Nat × List AV) := [(0, [.bool false]), (b, xs)]
noncomputable def sT (b : Nat) : ES := canon 219 (psT n b) (LT b) 10000
end
end Go.Proofs.YtjinilhfljefcaaGreat.Br
