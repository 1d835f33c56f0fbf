/- The program's RoundBest and the reference's tell the same journeys, of every timetable, two stops and a time. -/
import Derived.Test.YtcklifkbodmoaaaPFLawsFnexactroundbest
import Derived.Test.YtcklifkbodmoaaaMRound
import Derived.Test.YtcklifkbodmoaaaMHelpR
namespace Go.Proofs.Ytcklifkbodmoaaa.Pure
open Go.RowKit Go.Proofs.Ytcklifkbodmoaaa.P Go.Proofs.Ytcklifkbodmoaaa.M

theorem FnExactRoundBest : laws_FnExactRoundBest.Pure := by
  intro n ch l src tg t0 _ _ hl _ _ _ _
  by_cases hL : l.length ≤ 1048576
  rotate_left
  · refine ⟨0, ?_⟩
    unfold laws_FnExactRoundBest.f
    rw [szPlan_val n ch l hl, if_neg hL]
    rfl
  apply Ev.get
  unfold laws_FnExactRoundBest.f
  rw [szPlan_val n ch l hl, if_pos hL]
  simp only [Option.bind_some]
  refine Ev.neg (by omega) ?_
  have hN := toPlan_map n ch l hL
  have hm : (l.map toA).length = l.length := List.length_map ..
  generalize hA : l.map toA = A at hN hm
  have hi := impl_RoundBest_ev n ch A src tg t0 (by omega)
  have hs := spec_RoundBest_ev n ch A src tg t0 (by omega)
  have hc := roundBest_len n ch A src tg t0
  generalize roundBest n ch A src tg t0 = R at hi hs hc
  have hR := eqRoundS_self R (by omega)
  have hE := eqPlan_self n ch A (by omega)
  have hmk := markPlan_marks n ch A 1 (by omega) (by omega)
  refine Ev.bind hN (Ev.bind hs (Ev.bind hN (Ev.bind hi (Ev.bind hR (Ev.pos rfl (Ev.bind hN (Ev.bind hE (Ev.pos rfl (Ev.bind hmk (Ev.neg (by simp only; omega) (Ev.bind hR ?_)))))))))))
  refine Ev.step (fun k => by simp only [laws_FnExactRoundBest.j0]; rfl) (Ev.neg (by simp) ?_)
  have hmr := markRoundS_marks R 1 (by omega) (by omega)
  have hh := heldRoundS_marks 1 R.length (by omega) (by omega)
  exact Ev.bind hmr (Ev.bind hh (Ev.neg (by omega) (Ev.pos rfl (Ev.bind hN (Ev.bind hi (Ev.bind hR (Ev.pos rfl (Ev.bind hh (Ev.neg (by omega) (Ev.pos rfl (Ev.ret _)))))))))))
end Go.Proofs.Ytcklifkbodmoaaa.Pure
