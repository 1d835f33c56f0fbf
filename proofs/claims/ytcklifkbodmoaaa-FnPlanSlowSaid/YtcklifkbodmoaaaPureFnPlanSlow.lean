/- FnPlanSlow is true of every code: of a drawn timetable, who needs longer to change comes no earlier. -/
import Derived.Test.YtcklifkbodmoaaaPFLawsFnplanslow
import Derived.Test.YtcklifkbodmoaaaMPlanLaw
set_option linter.unusedVariables false
namespace Go.Proofs.Ytcklifkbodmoaaa.Pure
open Go.RowKit Go.Proofs.Ytcklifkbodmoaaa.P Go.Proofs.Ytcklifkbodmoaaa.M
open Go.Proofs.YtcklifkbodmoaaaV.PrintWords (rd)

theorem FnPlanSlow : laws_FnPlanSlow.Pure := by
  intro c _ hl hw
  by_cases hC : (c.length : Int) > 1048576
  · exact ⟨0, by unfold laws_FnPlanSlow.f; rw [if_pos hC]⟩
  apply Ev.get
  unfold laws_FnPlanSlow.f
  refine Ev.neg hC ?_
  obtain ⟨s, ch, l, src, t0, hd, s0, s1, l0, r0, r1, t0l, t0h⟩ := drawPlanAll_ev (by omega) hw
  have hll : l.length ≤ 1048576 := by omega
  have hi := impl_PlanAll_ev s ch l src t0 hll
  have hs := spec_PlanAll_ev s ch l src t0 hll
  have hR := planAll_short s ch l src t0
  have hwk := wkInts_self (planAll s ch l src t0) (by omega)
  refine Ev.bind hd (Ev.bind hi (Ev.bind hs (Ev.bind hwk (Ev.pos rfl ?_))))
  have stop : Ev (fun m => laws_FnPlanSlow.j0 m src t0 (planAll s ch l src t0) true s ch l) true :=
    Ev.step (fun m => by simp only [laws_FnPlanSlow.j0] <;> rfl) (Ev.pos (by trivial) (Ev.bind hs (Ev.bind hwk (Ev.ret _))))
  by_cases h : planInB s ch l src t0 = true
  rotate_left
  · have e := planAll_empty h
    refine Ev.pos (by rw [e]; rfl) stop
  · obtain ⟨ok, hch, hsr, ht⟩ := planIn_all h
    have hlen := planAll_len h
    have hA := planAll_arr h
    have c0 := ok.c0
    have c1 := ok.c1
    refine Ev.neg (by (try simp only); omega) ?_
    by_cases hc : ch ≥ 20
    · try simp only
      rw [decide_eq_true hc]
      exact stop
    · try simp only
      rw [decide_eq_false hc]
      have h' : planInB s (ch + 1) l src t0 = true := by
        simp only [planInB, Bool.and_eq_true] at h ⊢
        exact ⟨⟨planOkB_ch h.1.1 (by rw [betB_iff]; omega), h.1.2⟩, h.2⟩
      have hi' := impl_PlanAll_ev s (ch + 1) l src t0 hll
      have hlen' := planAll_len h'
      have hle : ∀ v : Int, 0 ≤ v → v < s → rd (planAll s ch l src t0) v ≤ rd (planAll s (ch + 1) l src t0) v := fun v h0 h1 =>
        hA.le2 ok (fun k ⟨n, hk⟩ => hk.lt) (planAll_arr h') (Int.le_refl _) (fun k ⟨n, hk⟩ => ⟨n, hk.weak (by omega) (Int.le_refl _)⟩) h0 h1
      generalize planAll s ch l src t0 = R at hlen hA hle ⊢
      generalize planAll s (ch + 1) l src t0 = R' at hi' hlen' hle
      refine Ev.step (fun m => by simp only [laws_FnPlanSlow.j0] <;> rfl) (Ev.neg (by simp) ?_)
      rw [w64 (by omega)]
      refine Ev.bind hi' ?_
      refine downto (P := fun k => Ev (fun m => laws_FnPlanSlow.l0 m R R' (k : Int) s ch l) true) (n := R.length) ?_ ?_
      · refine Ev.step (fun m => by simp only [laws_FnPlanSlow.l0]; rw [if_neg (by omega)]) ((Ev.ret _).eq (by simp; omega))
      · intro k hk hnext
        have := hle (k : Int) (by omega) (by omega)
        refine Ev.step (fun m => ?_) hnext
        simp only [laws_FnPlanSlow.l0]
        rw [if_pos (by omega), if_pos (by omega), if_pos (by omega), if_pos (by omega), if_neg (by omega), w64s (by omega)]
end Go.Proofs.Ytcklifkbodmoaaa.Pure
