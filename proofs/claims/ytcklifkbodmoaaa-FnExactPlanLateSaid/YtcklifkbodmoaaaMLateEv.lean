/- The program's PlanLate comes to planLate. -/
import Derived.Test.YtcklifkbodmoaaaMLate
import Derived.Test.YtcklifkbodmoaaaHPlanLate
set_option linter.unusedVariables false
namespace Go.Proofs.Ytcklifkbodmoaaa.M
open Go.RowKit Go.Proofs.Ytcklifkbodmoaaa.P Go.Proofs.YtcklifkbodmoaaaV.PrintWords Go.Proofs.YtcklifkbodmoaaaV.PrintMore
theorem planLate_len (n ch : Int) (l : List Co) (trip late : Int) : (planLate n ch l trip late).2.2.1.length ≤ l.length := by
  unfold planLate
  split
  · split
    · simp only [lateL_len]
      exact Nat.le_refl _
    · exact Nat.zero_le _
  · exact Nat.zero_le _
theorem impl_planLate_ev (n ch : Int) (l : List Co) (trip late : Int) (hl : l.length ≤ 1048576) : Ev (fun _ => impl_PlanLate.f n ch l trip late) (planLate n ch l trip late) := Ev.of fun _ => by
  unfold impl_PlanLate.f
  rw [if_pos hl]
end Go.Proofs.Ytcklifkbodmoaaa.M
