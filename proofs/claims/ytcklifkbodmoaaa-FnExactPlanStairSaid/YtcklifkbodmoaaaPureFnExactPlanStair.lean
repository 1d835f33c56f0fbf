/- The program's PlanStair and the reference's tell the same stair, of every timetable and two stops. -/
import Derived.Test.YtcklifkbodmoaaaPFLawsFnexactplanstair
import Derived.Test.YtcklifkbodmoaaaMStairP
import Derived.Test.YtcklifkbodmoaaaMHelpSt
namespace Go.Proofs.Ytcklifkbodmoaaa.Pure
open Go.RowKit Go.Proofs.Ytcklifkbodmoaaa.P Go.Proofs.Ytcklifkbodmoaaa.M

theorem FnExactPlanStair : laws_FnExactPlanStair.Pure := by
  intro n ch l src tg _ _ hl _ _ _
  by_cases hL : l.length ≤ 1048576
  rotate_left
  · refine ⟨0, ?_⟩
    unfold laws_FnExactPlanStair.f
    rw [szPlan_val n ch l hl, if_neg hL]
    rfl
  apply Ev.get
  unfold laws_FnExactPlanStair.f
  rw [szPlan_val n ch l hl, if_pos hL]
  simp only [Option.bind_some]
  refine Ev.neg (by omega) ?_
  have hN := toPlan_map n ch l hL
  have hm : (l.map toA).length = l.length := List.length_map ..
  generalize hA : l.map toA = A at hN hm
  have hi := impl_PlanStair_ev n ch A src tg (by omega)
  have hs := spec_PlanStair_ev n ch A src tg (by omega)
  have hc := planStair_len n ch A src tg
  obtain ⟨⟨R, b⟩, hr⟩ : ∃ r, r = planStair n ch A src tg := ⟨_, rfl⟩
  rw [← hr] at hi hs hc
  clear hr
  have hc' : R.length ≤ 11 := hc
  have hR := eqStepS_self R (by omega)
  have hE := eqPlan_self n ch A (by omega)
  have hmk := markPlan_marks n ch A 1 (by omega) (by omega)
  have hmr := markStepS_marks R 1 (by omega) (by omega)
  have hh := heldStepS_marks 1 R.length (by omega) (by omega)
  refine Ev.bind hN (Ev.bind hs (Ev.bind hN (Ev.bind hi (Ev.bind hR (Ev.pos rfl ?_)))))
  refine Ev.step (fun k => by simp only [laws_FnExactPlanStair.j0]; rfl) (Ev.neg (by simp) ?_)
  refine Ev.bind hN (Ev.bind hE (Ev.pos rfl (Ev.bind hmk (Ev.neg (by simp only; omega) (Ev.bind hR (Ev.pos rfl ?_))))))
  refine Ev.step (fun k => by simp only [laws_FnExactPlanStair.j1]; rfl) (Ev.neg (by simp) ?_)
  refine Ev.bind hmr (Ev.bind hh (Ev.neg (by omega) (Ev.pos rfl (Ev.bind hN (Ev.bind hi (Ev.bind hR (Ev.pos rfl ?_)))))))
  refine Ev.step (fun k => by simp only [laws_FnExactPlanStair.j2]; rfl) (Ev.neg (by simp) ?_)
  exact Ev.bind hh (Ev.neg (by omega) (Ev.pos rfl (Ev.ret _)))
end Go.Proofs.Ytcklifkbodmoaaa.Pure
