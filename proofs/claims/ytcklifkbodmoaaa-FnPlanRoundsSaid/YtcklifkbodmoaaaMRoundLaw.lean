/- What the laws of drawn journeys share. -/
import Derived.Test.YtcklifkbodmoaaaMRoundAll
import Derived.Test.YtcklifkbodmoaaaMDrawPlan
import Derived.Test.YtcklifkbodmoaaaMHelpR
import Derived.Test.YtcklifkbodmoaaaPFSpecDrawroundbest
set_option linter.unusedVariables false
namespace Go.Proofs.Ytcklifkbodmoaaa.M
open Go.RowKit Go.Proofs.Ytcklifkbodmoaaa.P Go.Proofs.YtcklifkbodmoaaaV.PrintWords Go.Proofs.YtcklifkbodmoaaaV.PrintMore
theorem drawRoundBest_ev {c : List Int} (hl : c.length ≤ 1048576) (hw : ∀ x ∈ c, (Lit.int .u8 x).wf = true) : ∃ (s ch : Int) (l : List S32) (src tg t0 : Int), Ev (fun k => spec_DrawRoundBest.f k c) (s, ch, l, src, tg, t0) ∧ 2 ≤ s ∧ s ≤ 5 ∧ l.length ≤ 15 ∧ 0 ≤ src ∧ src < s ∧ 0 ≤ tg ∧ tg < s ∧ 0 ≤ t0 ∧ t0 ≤ 20 := by
  obtain ⟨b, e0, hb⟩ := open_ev hl hw
  obtain ⟨s, ch, l, p, e1, s0, s1, l0, p0, p1⟩ := anyPlan_ev hb
  obtain ⟨r1, e2, _, hr1⟩ := pick_ev (b := b) (p := p) s hb p0 (by omega)
  have hr1 := hr1 (by omega)
  obtain ⟨r2, e3, _, hr2⟩ := pick_ev (b := b) (p := p + 1) s hb (by omega) (by omega)
  have hr2 := hr2 (by omega)
  obtain ⟨r3, e4, hr3⟩ := one_ev (b := b) (p := p + 1 + 1) [0, 5, 20] hb (by omega) (by omega) (by simp)
  refine ⟨s, ch, l, r1, r2, r3, ?_, s0, s1, l0, hr1.1, hr1.2, hr2.1, hr2.2, ?_⟩
  · unfold spec_DrawRoundBest.f
    rw [e0]
    simp only [Option.bind_some]
    exact Ev.bind e1 (Ev.bind e2 (Ev.bind e3 (Ev.bind e4 (Ev.ret _))))
  · simp only [List.mem_cons, List.not_mem_nil, or_false] at hr3
    omega
theorem planInB_of {s ch : Int} {l : List Cn} {src t0 : Int} (h : planOkB s ch l = true) (h0 : 0 ≤ src ∧ src < s) (ht : 0 ≤ t0 ∧ t0 ≤ 199) : planInB s ch l src t0 = true := by
  obtain ⟨ok, _⟩ := planOk_ok h
  have := ok.s1
  have := ok.s8
  simp only [planInB, Bool.and_eq_true, betB_iff]
  exact ⟨⟨h, by rw [w64 (by omega)]; omega⟩, ht⟩
/-- the journeys of a plan that is one -/
theorem roundBest_rb {s ch : Int} {l : List Cn} {src tg t0 : Int} (h : planOkB s ch l = true) (h0 : 0 ≤ src ∧ src < s) (h1 : 0 ≤ tg ∧ tg < s) (ht : 0 ≤ t0 ∧ t0 ≤ 199) (hs : s ≤ 7) :
    ∃ b, RB (fun k => rd (arrN ch src t0 l s k) tg) 7 (roundBest s ch l src tg t0) b ∧ b = rd (planAll s ch l src t0) tg ∧ planAll s ch l src t0 = arrN ch src t0 l s 6 := by
  have hp := planInB_of h h0 ht
  obtain ⟨ok, hch, hsr, _⟩ := planIn_all hp
  have s1 := ok.s1
  have hb : betB tg 0 (wrap64 (s - 1)) = true := by rw [betB_iff, w64 (by omega)]; omega
  have e : roundBest s ch l src tg t0 = (rbF (fun k => rd (arrN ch src t0 l s k) tg) 7).1 := by unfold roundBest; rw [hp, hb, if_pos (by simp)]
  have e2 : planAll s ch l src t0 = arrN ch src t0 l s 6 := by
    unfold planAll
    rw [if_pos hp]
    exact arrN_fin ok hch hsr ht.2 (by omega) (by omega)
  have hrb := rbF_rb (fun k => rd (arrN ch src t0 l s k) tg) 7
  rw [e, e2]
  refine ⟨_, hrb, ?_, rfl⟩
  generalize rbF (fun k => rd (arrN ch src t0 l s k) tg) 7 = st at hrb
  obtain ⟨L, b⟩ := st
  simp only at hrb ⊢
  have hlow := hrb.low 6 (by omega)
  have hbn := arrN_bnd (t0 := t0) ok hch hsr ht.2 h1.1 h1.2 6
  by_cases hL : L = []
  · have := hrb.none_ hL
    try simp only at hlow
    omega
  · have hpos : L.length - 1 < L.length := by
      have : 0 < L.length := List.length_pos_iff.2 hL
      omega
    have hl := hrb.last hpos
    obtain ⟨k, k1, k2, _⟩ := hrb.is_ _ hpos
    have := arrN_mono (t0 := t0) ok hch hsr h1.1 h1.2 k 6 (by omega)
    have h3 : (L[L.length - 1]).f1 = rd (arrN ch src t0 l s k) tg := by rw [k2]
    try simp only at hlow
    omega
theorem roundBest_no {s ch : Int} {l : List Cn} {src tg t0 : Int} (h : ¬ planOkB s ch l = true) : roundBest s ch l src tg t0 = [] := by
  unfold roundBest planInB
  rw [Bool.eq_false_iff.2 h, if_neg (by simp)]
theorem roundAll_of {s ch : Int} {l : List Cn} {src t0 : Int} {n : Nat} (h : planInB s ch l src t0 = true) (hn : n ≤ 6) : roundAll s ch l src t0 (n : Int) = grid7 ch src t0 l s (n + 1) := by
  have : betB (n : Int) 0 6 = true := by rw [betB_iff]; omega
  unfold roundAll
  rw [h, this, if_pos (by simp), Int.toNat_natCast]
end Go.Proofs.Ytcklifkbodmoaaa.M
