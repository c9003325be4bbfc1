/- Proved here: facts of the program's tables that the row of this law asks. No conditions. -/
import Derived.Test.YtjinilhfljefcaaGreatFacts
set_option linter.unusedVariables false
namespace Go.Proofs.YtjinilhfljefcaaGreat.Br
open Go Go.Proofs
set_option maxHeartbeats 0
theorem fInPlace : (Rows.breaksRefusesRow.inPlace == Tryz.prog.inPlace 3) = true := by kernel_rfl
theorem fUnfollowed : (Rows.breaksRefusesRow.unfollowed == Tryz.prog.unfollowed 3) = true := by kernel_rfl
theorem fRecurses : (Rows.breaksRefusesRow.recurses == Tryz.prog.recurses 3) = true := by kernel_rfl
theorem fNamed : (Rows.breaksRefusesRow.named == Tryz.prog.varsNamed 3) = true := by kernel_rfl
theorem fLifted : (Rows.breaksRefusesRow.lifted == Tryz.prog.liftsFinal) = true := by kernel_rfl
theorem fMake : (Tryz.prog.make == some Rows.breaksRefusesRow.make) = true := by kernel_rfl
theorem joined : joinedFacts Tryz.prog 3 Tryz.f3 Rows.breaksRefusesSpec Rows.breaksRefusesRow = true := by
  unfold joinedFacts
  simp only [Bool.and_eq_true]
  repeat' apply And.intro
  all_goals first
    | with_reducible exact Facts.mapsRow
    | with_reducible exact Facts.laidOut
    | with_reducible exact Facts.heard
    | with_reducible exact Facts.enters
    | with_reducible exact fInPlace
    | with_reducible exact fUnfollowed
    | with_reducible exact fRecurses
    | with_reducible exact fNamed
    | with_reducible exact fLifted
    | with_reducible exact fMake
    | kernel_rfl
end Go.Proofs.YtjinilhfljefcaaGreat.Br
