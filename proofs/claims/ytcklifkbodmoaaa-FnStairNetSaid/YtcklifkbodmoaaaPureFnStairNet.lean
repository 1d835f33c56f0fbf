/- FnStairNet is true of every code: of a drawn timetable nobody comes later by the stair than by one connection alone, and its last step is the last. -/
import Derived.Test.YtcklifkbodmoaaaPFLawsFnstairnet
import Derived.Test.YtcklifkbodmoaaaMStairLaw
set_option linter.unusedVariables false
namespace Go.Proofs.Ytcklifkbodmoaaa.Pure
open Go.RowKit Go.Proofs.Ytcklifkbodmoaaa.P Go.Proofs.Ytcklifkbodmoaaa.M
open Go.Proofs.YtcklifkbodmoaaaV.PrintWords (rd)
theorem stairLast_ev {T : List Stp} (h : GoodS T) (hl : T.length ≤ 11) {n : Nat} (hn : T.length = n + 1) : Ev (fun k => impl_StairLast.f k T (T[n]'(by omega)).f1) (T[n]'(by omega)).f0 := by
  have h1 := stairOk_ev h (by omega)
  have e : decide ((T.length : Int) ≤ 12) = true := decide_eq_true (by omega)
  rw [e] at h1
  unfold impl_StairLast.f
  refine Ev.bind h1 (Ev.pos rfl ?_)
  have hP := downto (P := fun i => ∀ b : Int, (∀ j (hj : j < T.length), i = j + 1 → b = T[j].f0) → Ev (fun k => impl_StairLast.l0 k (T[n]'(by omega)).f1 b T (T.length : Int) (i : Int)) (T[n]'(by omega)).f0) (n := T.length) ?_ ?_
  · exact hP (-1) (fun j _ hj => by omega)
  · intro b hb
    have := hb n (by omega) hn
    exact Ev.step (fun k => by simp only [impl_StairLast.l0]; rw [if_neg (by omega)]) ((Ev.ret _).eq this)
  · intro i hi hnext b hb
    have hle : T[i].f1 ≤ (T[n]'(by omega)).f1 := by
      by_cases hin : i = n
      · subst hin
        exact Int.le_refl _
      · have := (List.pairwise_iff_getElem.1 h.asc i n hi (by omega) (by omega)).2
        omega
    refine Ev.step (fun k => by simp only [impl_StairLast.l0]; rw [if_pos (by omega), if_pos (by omega), if_pos (by omega), rdSt_at _ i hi, if_pos hle, w64s (by omega)]) (hnext T[i].f0 (fun j hj hij => ?_))
    have : i = j := by omega
    subst this
    rfl
theorem FnStairNet : laws_FnStairNet.Pure := by
  intro c _ hl hw
  by_cases hC : (c.length : Int) > 1048576
  · exact ⟨0, by unfold laws_FnStairNet.f; rw [if_pos hC]⟩
  apply Ev.get
  unfold laws_FnStairNet.f
  refine Ev.neg hC ?_
  obtain ⟨s, ch, l, src, tgt, hd, hl15⟩ := drawPlanStair_ev (by omega) hw
  have hi := impl_PlanStair_ev s ch l src tgt (by omega)
  have hs := spec_PlanStair_ev s ch l src tgt (by omega)
  by_cases hb : stairB s ch l src tgt = true
  rotate_left
  · rw [planStair_off hb] at hi hs
    have hwk := wkSteps_self [] (by simp)
    refine Ev.bind hd (Ev.bind hi (Ev.bind hs (Ev.neg (by simp) (Ev.bind hwk (Ev.pos rfl ?_)))))
    refine Ev.step (fun k => by simp only [laws_FnStairNet.j0]; rfl) (Ev.pos (by simp) (Ev.pos (by simp) (Ev.bind hwk (Ev.ret _))))
  · have hp := stairB_put hb
    have hsh := stair_short hp
    have hgood := stair_good hp.table
    have hSA := fun (at_ : Nat) (h : at_ ≤ 199) => stairAt_ev hp at_ h
    rw [planStair_on hb] at hi hs
    have hwk := wkSteps_self (stairL (arrT s ch l src tgt) 200) (by omega)
    refine Ev.bind hd (Ev.bind hi (Ev.bind hs (Ev.neg (by simp) (Ev.bind hwk (Ev.pos rfl ?_)))))
    refine Ev.step (fun k => by simp only [laws_FnStairNet.j0]; rfl) (Ev.neg (by simp) ?_)
    refine downto (P := fun i => Ev (fun k => laws_FnStairNet.l0 k src tgt (stairL (arrT s ch l src tgt) 200) (i : Int) s ch l) true) (n := l.length) ?_ ?_
    · generalize stairL (arrT s ch l src tgt) 200 = T at hsh hgood
      refine Ev.step (fun k => by simp only [laws_FnStairNet.l0]; rw [if_neg (by omega)]) ?_
      by_cases h0 : (T.length : Int) = 0
      · exact Ev.pos h0 (Ev.ret _)
      · obtain ⟨n, hn⟩ : ∃ n, T.length = n + 1 := ⟨T.length - 1, by omega⟩
        have hL := stairLast_ev hgood hsh hn
        refine Ev.neg h0 ?_
        rw [show wrap64 ((T.length : Int) - 1) = (n : Int) by rw [w64 (by omega)]; omega, rdSt_at T n (by omega)]
        exact Ev.pos (by omega) (Ev.pos (by omega) (Ev.bind hL ((Ev.ret _).eq (by simp))))
    · intro i hi' hnext
      obtain ⟨ok, hch⟩ := planOk_ok hp.ok
      have h5 := ok.at_ i hi'
      by_cases h0 : (cn l i).f0 = src
      · by_cases h1 : (cn l i).f1 = tgt
        · have hA := hSA (cn l i).f2.toNat (by omega)
          rw [show (((cn l i).f2.toNat : Nat) : Int) = (cn l i).f2 by omega] at hA
          have hle : arrT s ch l src tgt (cn l i).f2.toNat ≤ (cn l i).f3 := by
            have eA : arrT s ch l src tgt (cn l i).f2.toNat = rd (planAll s ch l src (cn l i).f2) tgt := by unfold arrT; rw [if_pos (by omega), show (((cn l i).f2.toNat : Nat) : Int) = (cn l i).f2 by omega]
            have := (hp.arr (t := (cn l i).f2) (by omega)).low i ⟨1, .base (Nat.le_refl _) hi' h0 (Int.le_refl _)⟩ (by rw [h1]; exact hp.ne)
            rw [h1] at this
            omega
          refine Ev.step (fun k => by simp only [laws_FnStairNet.l0]; rw [if_pos (by omega), if_pos (by omega), rdT_cn, if_pos h0, if_pos h1, w64s (by omega)]) (Ev.bind hA ?_)
          exact Ev.neg (by omega) hnext
        · refine Ev.step (fun k => ?_) hnext
          simp only [laws_FnStairNet.l0]
          rw [if_pos (by omega), if_pos (by omega), rdT_cn, if_pos h0, if_neg h1, w64s (by omega)]
      · refine Ev.step (fun k => ?_) hnext
        simp only [laws_FnStairNet.l0]
        rw [if_pos (by omega), if_pos (by omega), rdT_cn, if_neg h0, w64s (by omega)]
end Go.Proofs.Ytcklifkbodmoaaa.Pure
