/- What the laws of stairs need: the drawn timetable, likeness of stairs, what a stair tells at a time, and its last step. -/
import Derived.Test.YtcklifkbodmoaaaMStairP
import Derived.Test.YtcklifkbodmoaaaPFSpecDrawplanstair
import Derived.Test.YtcklifkbodmoaaaPFLawsWksteps
import Derived.Test.YtcklifkbodmoaaaMDrawPlan
set_option linter.unusedVariables false
namespace Go.Proofs.Ytcklifkbodmoaaa.M
open Go.RowKit Go.Proofs.Ytcklifkbodmoaaa.P Go.Proofs.YtcklifkbodmoaaaV.PrintWords Go.Proofs.YtcklifkbodmoaaaV.PrintMore
theorem drawPlanStair_ev {c : List Int} (hl : c.length ≤ 1048576) (hw : ∀ x ∈ c, (Lit.int .u8 x).wf = true) : ∃ (s ch : Int) (l : List S32) (src tgt : Int), Ev (fun k => spec_DrawPlanStair.f k c) (s, ch, l, src, tgt) ∧ l.length ≤ 15 := by
  obtain ⟨b, e0, hb⟩ := open_ev hl hw
  obtain ⟨s, ch, l, p, e1, s0, s1, l0, p0, p1⟩ := anyPlan_ev hb
  obtain ⟨r1, e2, _, hr1⟩ := pick_ev (b := b) (p := p) s hb p0 (by omega)
  obtain ⟨r2, e3, _, hr2⟩ := pick_ev (b := b) (p := p + 1) s hb (by omega) (by omega)
  refine ⟨s, ch, l, r1, r2, ?_, l0⟩
  unfold spec_DrawPlanStair.f
  rw [e0]
  simp only [Option.bind_some]
  exact Ev.bind e1 (Ev.bind e2 (Ev.bind e3 (Ev.ret _)))
theorem wkSteps_self (l : List Stp) (hl : l.length ≤ 4611686018427387904) : Ev (fun k => laws_wkSteps.f k l l) true := by
  unfold laws_wkSteps.f
  refine Ev.pos rfl ?_
  refine downto (P := fun j => Ev (fun k => laws_wkSteps.l0 k l l (j : Int)) true) (n := l.length) ?_ ?_
  · exact Ev.step (fun k => by simp only [laws_wkSteps.l0]; rw [if_neg (by omega)]) (Ev.ret _)
  · intro j hj ih
    refine Ev.step (fun k => ?_) ih
    simp only [laws_wkSteps.l0]
    rw [if_pos (by omega), if_pos (by omega), if_pos (by omega), if_neg (by simp), w64s (by omega)]
theorem arrival_ev {A : Nat → Int} (hA : Arr A) (at_ : Nat) (h : at_ ≤ 199) : Ev (fun k => impl_arrival.f k (stairL A 200) (at_ : Int)) (A at_) := by
  obtain ⟨h1, h2⟩ := arrival_find hA at_ h
  have hl := stairL_len A 200
  have hP := downto (P := fun i => (∀ j (hj : j < (stairL A 200).length), j < i → (stairL A 200)[j].f0 < (at_ : Int)) → Ev (fun k => impl_arrival.l0 k (at_ : Int) (stairL A 200) ((stairL A 200).length : Int) (i : Int)) (A at_)) (n := (stairL A 200).length) ?_ ?_
  · exact hP (fun j _ hj => absurd hj (Nat.not_lt_zero _))
  · intro hall
    rw [h2 (fun j hj => hall j hj hj)]
    exact Ev.step (fun k => by simp only [impl_arrival.l0]; rw [if_neg (by omega)]) (Ev.ret _)
  · intro i hi hnext hall
    by_cases hc : (stairL A 200)[i].f0 ≥ (at_ : Int)
    · have e := h1 i hi (fun j hj => hall j (by omega) hj) hc
      refine Ev.step (fun k => by simp only [impl_arrival.l0]; rw [if_pos (by omega), if_pos (by omega), if_pos (by omega), rdSt_at _ i hi, if_pos hc]) ((Ev.ret _).eq e)
    · refine Ev.step (fun k => by simp only [impl_arrival.l0]; rw [if_pos (by omega), if_pos (by omega), if_pos (by omega), rdSt_at _ i hi, if_neg hc, w64s (by omega)]) (hnext (fun j hj hji => ?_))
      by_cases e : j = i
      · subst e
        omega
      · exact hall j hj (by omega)
variable {s ch src tgt : Int} {l : List Cn}
theorem stairAt_ev (h : Put s ch l src tgt) (at_ : Nat) (hat : at_ ≤ 199) : Ev (fun k => impl_StairAt.f k (stairL (arrT s ch l src tgt) 200) (at_ : Int)) (arrT s ch l src tgt at_) := by
  have hs := stair_short h
  have h1 := stairOk_ev (stair_good h.table) (by omega)
  have e : decide (((stairL (arrT s ch l src tgt) 200).length : Int) ≤ 12) = true := decide_eq_true (by omega)
  rw [e] at h1
  unfold impl_StairAt.f
  exact Ev.bind h1 (Ev.pos rfl (Ev.bind (arrival_ev h.table at_ hat) (Ev.ret _)))
theorem planStair_on (h : stairB s ch l src tgt = true) : planStair s ch l src tgt = (stairL (arrT s ch l src tgt) 200, true) := by
  unfold planStair
  rw [if_pos h]
theorem planStair_off (h : ¬ stairB s ch l src tgt = true) : planStair s ch l src tgt = ([], false) := by
  unfold planStair
  rw [if_neg h]
end Go.Proofs.Ytcklifkbodmoaaa.M
