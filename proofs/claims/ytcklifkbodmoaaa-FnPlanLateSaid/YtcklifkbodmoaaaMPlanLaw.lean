/- What the laws of drawn timetables share. -/
import Derived.Test.YtcklifkbodmoaaaMPlanAll
import Derived.Test.YtcklifkbodmoaaaMDrawPlan
import Derived.Test.YtcklifkbodmoaaaMWk
import Derived.Test.YtcklifkbodmoaaaPFSpecDrawplanall
set_option linter.unusedVariables false
namespace Go.Proofs.Ytcklifkbodmoaaa.M
open Go.RowKit Go.Proofs.Ytcklifkbodmoaaa.P Go.Proofs.YtcklifkbodmoaaaV.PrintWords Go.Proofs.YtcklifkbodmoaaaV.PrintMore
theorem drawPlanAll_ev {c : List Int} (hl : c.length ≤ 1048576) (hw : ∀ x ∈ c, (Lit.int .u8 x).wf = true) : ∃ (s ch : Int) (l : List S32) (src t0 : Int), Ev (fun k => spec_DrawPlanAll.f k c) (s, ch, l, src, t0) ∧ 2 ≤ s ∧ s ≤ 5 ∧ l.length ≤ 15 ∧ 0 ≤ src ∧ src < s ∧ 0 ≤ t0 ∧ t0 ≤ 200 := by
  obtain ⟨b, e0, hb⟩ := open_ev hl hw
  obtain ⟨s, ch, l, p, e1, s0, s1, l0, p0, p1⟩ := anyPlan_ev hb
  obtain ⟨r1, e2, _, hr1⟩ := pick_ev (b := b) (p := p) s hb p0 (by omega)
  have hr1 := hr1 (by omega)
  obtain ⟨r2, e3, hr2⟩ := one_ev (b := b) (p := p + 1) [0, 5, 20, 50, 199, 200] hb (by omega) (by omega) (by simp)
  refine ⟨s, ch, l, r1, r2, ?_, s0, s1, l0, hr1.1, hr1.2, ?_⟩
  · unfold spec_DrawPlanAll.f
    rw [e0]
    simp only [Option.bind_some]
    exact Ev.bind e1 (Ev.bind e2 (Ev.bind e3 (Ev.ret _)))
  · simp only [List.mem_cons, List.not_mem_nil, or_false] at hr2
    omega
theorem IsArr.le2 {s ch src t0 t1 : Int} {l : List Cn} (ok : Ok s ch l) {P Q : Nat → Prop} {D E : List Int} (hP : ∀ k, P k → k < l.length) (h : IsArr l s src t0 P D) (g : IsArr l s src t1 Q E) (ht : t0 ≤ t1) (e : ∀ k, Q k → P k) {v : Int} (h0 : 0 ≤ v) (h1 : v < s) : rd D v ≤ rd E v := by
  by_cases hs : v = src
  · subst hs
    rw [h.src_, g.src_]
    exact ht
  · rcases g.is_ v h0 h1 hs with hf | ⟨k, hk, rfl, e1⟩
    · rw [hf]
      rcases h.is_ v h0 h1 hs with hf' | ⟨k, hk, _, e2⟩
      · omega
      · have := ok.at_ k (hP k hk)
        omega
    · rw [e1]
      exact h.low k (e k hk) hs
theorem planAll_empty {s ch : Int} {l : List Cn} {src t0 : Int} (h : ¬ planInB s ch l src t0 = true) : planAll s ch l src t0 = [] := by
  unfold planAll
  rw [if_neg h]
theorem planOkB_ch {s ch ch' : Int} {l : List Cn} (h : planOkB s ch l = true) (hc : betB ch' 0 20 = true) : planOkB s ch' l = true := by
  simp only [planOkB, headB, Bool.and_eq_true] at h ⊢
  exact ⟨h.1, h.2.1, hc⟩
end Go.Proofs.Ytcklifkbodmoaaa.M
