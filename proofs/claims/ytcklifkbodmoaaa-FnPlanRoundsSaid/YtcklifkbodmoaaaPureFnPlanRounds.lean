/- FnPlanRounds is true of every code: of a drawn timetable, as many trips as bring one earliest are needed for that. -/
import Derived.Test.YtcklifkbodmoaaaPFLawsFnplanrounds
import Derived.Test.YtcklifkbodmoaaaMRoundLaw
set_option linter.unusedVariables false
namespace Go.Proofs.Ytcklifkbodmoaaa.Pure
open Go.RowKit Go.Proofs.Ytcklifkbodmoaaa.P Go.Proofs.Ytcklifkbodmoaaa.M
open Go.Proofs.YtcklifkbodmoaaaV.PrintWords (rd)

theorem FnPlanRounds : laws_FnPlanRounds.Pure := by
  intro c _ hl hw
  by_cases hC : (c.length : Int) > 1048576
  · exact ⟨0, by unfold laws_FnPlanRounds.f; rw [if_pos hC]⟩
  apply Ev.get
  unfold laws_FnPlanRounds.f
  refine Ev.neg hC ?_
  obtain ⟨s, ch, l, src, tg, t0, hd, s0, s1, l0, r0, r1, q0, q1, t0l, t0h⟩ := drawRoundBest_ev (by omega) hw
  have hll : l.length ≤ 1048576 := by omega
  have hi := impl_RoundBest_ev s ch l src tg t0 hll
  have hs := spec_RoundBest_ev s ch l src tg t0 hll
  refine Ev.bind hd (Ev.bind hi (Ev.bind hs (Ev.pos rfl ?_)))
  by_cases hL : roundBest s ch l src tg t0 = []
  · rw [hL]
    exact Ev.step (fun m => by simp only [laws_FnPlanRounds.j0] <;> rfl) (Ev.pos (by simp) ((Ev.ret _).eq (by simp)))
  · have h : planOkB s ch l = true := by
      by_cases h : planOkB s ch l = true
      · exact h
      · exact absurd (roundBest_no h) hL
    have hp := planInB_of h ⟨r0, r1⟩ ⟨t0l, (by omega : t0 ≤ 199)⟩
    obtain ⟨ok, hch, hsr, ht⟩ := planIn_all hp
    obtain ⟨b, hrb, hbe, hfin⟩ := roundBest_rb h ⟨r0, r1⟩ ⟨q0, q1⟩ ht (by omega)
    have hA := impl_PlanAll_ev s ch l src t0 hll
    have hAl := planAll_len hp
    have hLn := roundBest_len s ch l src tg t0
    generalize roundBest s ch l src tg t0 = L at hi hs hrb hLn hL ⊢
    have hpos : 0 < L.length := List.length_pos_iff.2 hL
    have hl1 : L.length - 1 < L.length := by omega
    have hb0 : ((L.length : Int) == 0) = false := beq_eq_false_iff_ne.mpr (by omega)
    rw [hb0]
    have hw : wrap64 ((L.length : Int) - 1) = ((L.length - 1 : Nat) : Int) := by rw [w64 (by omega)]; omega
    obtain ⟨k, k1, k2, k3, k4⟩ := hrb.is_ _ hl1
    have e0 : (L[L.length - 1]).f0 = (k : Int) := by rw [k2]
    have e1 : (L[L.length - 1]).f1 = rd (arrN ch src t0 l s k) tg := by rw [k2]
    have hlast := hrb.last hl1
    have hall := impl_RoundAll_ev s ch l src t0 (k : Int) hll
    rw [roundAll_of hp (n := k) (by omega)] at hall
    have hln := arrN_len (t0 := t0) ok hch hsr k
    refine Ev.step (fun m => by simp only [laws_FnPlanRounds.j0] <;> rfl) (Ev.neg (by simp) ?_)
    rw [hw, rdR_at _ _ hl1, e0]
    refine Ev.pos (by omega) (Ev.pos (by omega) (Ev.bind hall (Ev.bind hA ?_)))
    rw [grid7_at (by omega)]
    refine Ev.pos q0 (Ev.pos (by omega) (Ev.pos (by omega) (Ev.pos (by rw [grid7_len]; omega) (Ev.pos (by omega) (Ev.pos (by omega) ?_)))))
    by_cases hk0 : (k : Int) = 0
    · exact Ev.pos hk0 (Ev.ret _)
    · have hw2 : wrap64 ((k : Int) - 1) = ((k - 1 : Nat) : Int) := by rw [w64 (by omega)]; omega
      have hln2 := arrN_len (t0 := t0) ok hch hsr (k - 1)
      have hlt := k4 (k - 1) (by omega)
      refine Ev.neg hk0 ?_
      rw [hw2, grid7_at (by omega)]
      refine Ev.pos (by omega) (Ev.pos (by rw [grid7_len]; omega) (Ev.pos (by omega) ((Ev.ret _).eq ?_)))
      simp only [decide_eq_true_eq]
      try simp only at hlt
      omega
end Go.Proofs.Ytcklifkbodmoaaa.Pure
