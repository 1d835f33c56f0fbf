/- FnRoundBest is true of every code: of a drawn timetable, each more trips bring one earlier, and the last of the journeys as early as any. -/
import Derived.Test.YtcklifkbodmoaaaPFLawsFnroundbest
import Derived.Test.YtcklifkbodmoaaaMRoundLaw
set_option linter.unusedVariables false
namespace Go.Proofs.Ytcklifkbodmoaaa.Pure
open Go.RowKit Go.Proofs.Ytcklifkbodmoaaa.P Go.Proofs.Ytcklifkbodmoaaa.M
open Go.Proofs.YtcklifkbodmoaaaV.PrintWords (rd)

theorem FnRoundBest : laws_FnRoundBest.Pure := by
  intro c _ hl hw
  by_cases hC : (c.length : Int) > 1048576
  · exact ⟨0, by unfold laws_FnRoundBest.f; rw [if_pos hC]⟩
  apply Ev.get
  unfold laws_FnRoundBest.f
  refine Ev.neg hC ?_
  obtain ⟨s, ch, l, src, tg, t0, hd, s0, s1, l0, r0, r1, q0, q1, t0l, t0h⟩ := drawRoundBest_ev (by omega) hw
  have hll : l.length ≤ 1048576 := by omega
  have hi := impl_RoundBest_ev s ch l src tg t0 hll
  have hs := spec_RoundBest_ev s ch l src tg t0 hll
  have hok := planOk_ev s ch l hll
  refine Ev.bind hd (Ev.bind hi (Ev.bind hs (Ev.pos rfl (Ev.bind hok ?_))))
  by_cases h : planOkB s ch l = true
  rotate_left
  · rw [Bool.eq_false_iff.2 h]
    exact Ev.step (fun m => by simp only [laws_FnRoundBest.j0] <;> rfl) (Ev.pos (by trivial) ((Ev.ret _).eq (by simp)))
  · rw [h]
    have hp := planInB_of h ⟨r0, r1⟩ ⟨t0l, (by omega : t0 ≤ 199)⟩
    obtain ⟨ok, hch, hsr, ht⟩ := planIn_all hp
    obtain ⟨b, hrb, hbe, hfin⟩ := roundBest_rb h ⟨r0, r1⟩ ⟨q0, q1⟩ ht (by omega)
    have hall := impl_RoundAll_ev s ch l src t0 6 hll
    rw [show (6 : Int) = ((6 : Nat) : Int) from rfl, roundAll_of hp (n := 6) (by omega)] at hall
    have hA := impl_PlanAll_ev s ch l src t0 hll
    have hAl := planAll_len hp
    have hLn := roundBest_len s ch l src tg t0
    generalize roundBest s ch l src tg t0 = L at hi hs hrb hLn ⊢
    refine Ev.step (fun m => by simp only [laws_FnRoundBest.j0] <;> rfl) (Ev.neg (by simp) (Ev.bind hall ?_))
    refine downto (P := fun i => Ev (fun m => laws_FnRoundBest.l0 m src tg t0 L L (grid7 ch src t0 l s (6 + 1)) (i : Int) s ch l) true) (n := L.length) ?_ ?_
    · refine Ev.step (fun m => by simp only [laws_FnRoundBest.l0]; rw [if_neg (by omega)]) ?_
      by_cases hpos : (L.length : Int) > 0
      · have hw : wrap64 ((L.length : Int) - 1) = ((L.length - 1 : Nat) : Int) := by rw [w64 (by omega)]; omega
        have hl1 : L.length - 1 < L.length := by omega
        refine Ev.pos hpos ?_
        rw [hw]
        refine Ev.pos (by omega) (Ev.pos (by omega) (Ev.bind hA (Ev.pos q0 (Ev.pos (by omega) ((Ev.ret _).eq ?_)))))
        rw [rdR_at _ _ hl1, ← hrb.last hl1, hbe]
        simp
      · refine Ev.neg hpos (Ev.bind hA (Ev.pos q0 (Ev.pos (by omega) ((Ev.ret _).eq ?_))))
        have : L = [] := List.eq_nil_of_length_eq_zero (by omega)
        rw [← hbe, hrb.none_ this]
        rfl
    · intro i hi' hnext
      obtain ⟨k, k1, k2, k3, _⟩ := hrb.is_ i hi'
      have hln := arrN_len (t0 := t0) ok hch hsr k
      refine Ev.step (fun m => by simp only [laws_FnRoundBest.l0]; rw [if_pos (by omega), if_pos (by omega), if_pos (by omega)]) ?_
      rw [rdR_at _ _ hi', w64s (by omega)]
      have e0 : L[i].f0 = (k : Int) := by rw [k2]
      have e1 : L[i].f1 = rd (arrN ch src t0 l s k) tg := by rw [k2]
      refine Ev.neg (by simp) ?_
      rw [e0, grid7_at (by omega)]
      refine Ev.pos (by omega) (Ev.pos (by rw [grid7_len]; omega) (Ev.pos q0 (Ev.pos (by omega) (Ev.pos e1.symm ?_))))
      by_cases hi0 : (i : Int) > 0
      · have hw : wrap64 ((i : Int) - 1) = ((i - 1 : Nat) : Int) := by rw [w64 (by omega)]; omega
        refine Ev.pos hi0 ?_
        rw [hw]
        have hup := hrb.up (i - 1) (by omega)
        have e : i - 1 + 1 = i := by omega
        simp only [e] at hup
        rw [rdR_at _ _ (by omega)]
        refine Ev.pos (by omega) (Ev.pos (by omega) (Ev.neg (by omega) (Ev.neg (by omega) hnext)))
      · exact Ev.neg hi0 hnext
end Go.Proofs.Ytcklifkbodmoaaa.Pure
