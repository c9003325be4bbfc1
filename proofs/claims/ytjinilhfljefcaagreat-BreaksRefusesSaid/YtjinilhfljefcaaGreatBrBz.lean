/- Proved here: a part of what BreaksRefuses comes to. No conditions. -/
import Derived.Test.YtjinilhfljefcaaGreatBrC0
import Derived.Test.YtjinilhfljefcaaGreatBrBT
import Derived.Test.YtjinilhfljefcaaGreatBrBM
import Derived.Test.YtjinilhfljefcaaGreatBrBD1
set_option linter.unusedVariables false
namespace Go.Proofs.YtjinilhfljefcaaGreat.Br
open Go Go.Am Go.Proofs
noncomputable abbrev MB : Memo := memoOf 100 [entBT1, entBM1, entBD1, entBD2, entBD3]
noncomputable abbrev KB : Knot := knot Tryz.prog MB 1000000
/-- Behind 'New', where there are too many picks. -/
def psX (m n : Int) : List (Nat × AV) := [(1, .int .i64 m), (2, .int .i64 n), (6, .ptr 0 0), (9, .nilPtr), (10, .int .i64 2), (11, .ptr 701 0)]
def LX : List (Nat × List AV) := [(0, [.bool false]), (701, xs)]
end Go.Proofs.YtjinilhfljefcaaGreat.Br
