/- The program's PlanLate and the reference's tell the same timetable, of every timetable, trip and delay. -/
import Derived.Test.YtcklifkbodmoaaaPFLawsFnexactplanlate
import Derived.Test.YtcklifkbodmoaaaMLateEv
import Derived.Test.YtcklifkbodmoaaaMHelp2
namespace Go.Proofs.Ytcklifkbodmoaaa.Pure
open Go.RowKit Go.Proofs.Ytcklifkbodmoaaa.P Go.Proofs.Ytcklifkbodmoaaa.M

theorem FnExactPlanLate : laws_FnExactPlanLate.Pure := by
  intro n ch l trip late _ _ hl _ _ _
  by_cases hL : l.length ≤ 1048576
  rotate_left
  · refine ⟨0, ?_⟩
    unfold laws_FnExactPlanLate.f
    rw [szPlan_val n ch l hl, if_neg hL]
    rfl
  apply Ev.get
  unfold laws_FnExactPlanLate.f
  rw [szPlan_val n ch l hl, if_pos hL]
  simp only [Option.bind_some]
  refine Ev.neg (by omega) ?_
  have hN := toPlan_map n ch l hL
  have hm : (l.map toA).length = l.length := List.length_map ..
  generalize hA : l.map toA = A at hN hm
  have hi := impl_planLate_ev n ch A trip late (by omega)
  have hs := spec_planLate_ev n ch A trip late (by omega)
  have hc := planLate_len n ch A trip late
  obtain ⟨⟨s1, c1, R, b⟩, hr⟩ : ∃ r, r = planLate n ch A trip late := ⟨_, rfl⟩
  rw [← hr] at hi hs hc
  clear hr
  have hc' : R.length ≤ A.length := hc
  have hR := eqPlan_self s1 c1 R (by omega)
  have hE := eqPlan_self n ch A (by omega)
  have hmk := markPlan_marks n ch A 1 (by omega) (by omega)
  have hmr := markPlan_marks s1 c1 R 1 (by omega) (by omega)
  have hh := heldPlan_marks s1 c1 1 R.length (by omega) (by omega)
  refine Ev.bind hN (Ev.bind hs (Ev.bind hN (Ev.bind hi (Ev.bind hR (Ev.pos rfl ?_)))))
  refine Ev.step (fun k => by simp only [laws_FnExactPlanLate.j0]; rfl) (Ev.neg (by simp) ?_)
  refine Ev.bind hN (Ev.bind hE (Ev.pos rfl (Ev.bind hmk (Ev.neg (by simp only; omega) (Ev.bind hR (Ev.pos rfl ?_))))))
  refine Ev.step (fun k => by simp only [laws_FnExactPlanLate.j1]; rfl) (Ev.neg (by simp) ?_)
  refine Ev.bind hmr (Ev.bind hh (Ev.neg (by omega) (Ev.pos rfl (Ev.bind hN (Ev.bind hi (Ev.bind hR (Ev.pos rfl ?_)))))))
  refine Ev.step (fun k => by simp only [laws_FnExactPlanLate.j2]; rfl) (Ev.neg (by simp) ?_)
  exact Ev.bind hh (Ev.neg (by omega) (Ev.pos rfl (Ev.ret _)))
end Go.Proofs.Ytcklifkbodmoaaa.Pure
