/- FnPlanStair is true of every code: of a drawn timetable the stair from one stop to another tells, at each time, the earliest arrival. -/
import Derived.Test.YtcklifkbodmoaaaPFLawsFnplanstair
import Derived.Test.YtcklifkbodmoaaaMStairLaw
set_option linter.unusedVariables false
namespace Go.Proofs.Ytcklifkbodmoaaa.Pure
open Go.RowKit Go.Proofs.Ytcklifkbodmoaaa.P Go.Proofs.Ytcklifkbodmoaaa.M
theorem FnPlanStair : laws_FnPlanStair.Pure := by
  intro c _ hl hw
  by_cases hC : (c.length : Int) > 1048576
  · exact ⟨0, by unfold laws_FnPlanStair.f; rw [if_pos hC]⟩
  apply Ev.get
  unfold laws_FnPlanStair.f
  refine Ev.neg hC ?_
  obtain ⟨s, ch, l, src, tgt, hd, hl15⟩ := drawPlanStair_ev (by omega) hw
  have hi := impl_PlanStair_ev s ch l src tgt (by omega)
  have hs := spec_PlanStair_ev s ch l src tgt (by omega)
  by_cases hb : stairB s ch l src tgt = true
  rotate_left
  · rw [planStair_off hb] at hi hs
    have hwk := wkSteps_self [] (by simp)
    refine Ev.bind hd (Ev.bind hi (Ev.bind hs (Ev.neg (by simp) (Ev.bind hwk (Ev.pos rfl ?_)))))
    refine Ev.step (fun k => by simp only [laws_FnPlanStair.j0]; rfl) (Ev.pos (by simp) (Ev.pos (by simp) (Ev.bind hwk (Ev.ret _))))
  · have hp := stairB_put hb
    have hsh := stair_short hp
    have hSA := fun (at_ : Nat) (h : at_ ≤ 199) => stairAt_ev hp at_ h
    have hOk := stairOk_ev (stair_good hp.table) (by omega)
    have e : decide (((stairL (arrT s ch l src tgt) 200).length : Int) ≤ 12) = true := decide_eq_true (by omega)
    rw [e] at hOk
    rw [planStair_on hb] at hi hs
    have hwk := wkSteps_self (stairL (arrT s ch l src tgt) 200) (by omega)
    refine Ev.bind hd (Ev.bind hi (Ev.bind hs (Ev.neg (by simp) (Ev.bind hwk (Ev.pos rfl ?_)))))
    refine Ev.step (fun k => by simp only [laws_FnPlanStair.j0]; rfl) (Ev.neg (by simp) ?_)
    refine downto (P := fun i => Ev (fun k => laws_FnPlanStair.l0 k src tgt (stairL (arrT s ch l src tgt) 200) (3 * (i : Int)) s ch l) true) (n := 67) ?_ ?_
    · exact Ev.step (fun k => by simp only [laws_FnPlanStair.l0]; rw [if_neg (by omega)]) (Ev.bind hOk (Ev.ret _))
    · intro i hi' hnext
      have hin := hp.in_ (t := ((3 * i : Nat) : Int)) (by omega)
      have hA := impl_PlanAll_ev s ch l src ((3 * i : Nat) : Int) (by omega)
      have hlen := planAll_len hin
      have ht := hp.to_
      have h1 := hSA (3 * i) (by omega)
      have eA : arrT s ch l src tgt (3 * i) = Go.Proofs.YtcklifkbodmoaaaV.PrintWords.rd (planAll s ch l src ((3 * i : Nat) : Int)) tgt := by unfold arrT; rw [if_pos (by omega)]
      rw [show 3 * (i : Int) = ((3 * i : Nat) : Int) by omega]
      refine Ev.step (fun k => by simp only [laws_FnPlanStair.l0]; rw [if_pos (by omega), w64 (n := ((3 * i : Nat) : Int) + 3) (by omega)]) (Ev.bind h1 (Ev.bind hA ?_))
      refine Ev.pos (by omega) (Ev.pos (by omega) (Ev.pos eA ?_))
      rw [show ((3 * i : Nat) : Int) + 3 = 3 * ((i + 1 : Nat) : Int) by omega]
      exact hnext
end Go.Proofs.Ytcklifkbodmoaaa.Pure
