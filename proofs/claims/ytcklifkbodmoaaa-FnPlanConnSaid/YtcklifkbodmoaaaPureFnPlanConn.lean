/- FnPlanConn is true of every code: of a drawn timetable, whoever can be on a connection comes no later than it, there and on its trip's later ones. -/
import Derived.Test.YtcklifkbodmoaaaPFLawsFnplanconn
import Derived.Test.YtcklifkbodmoaaaMPlanLaw
set_option linter.unusedVariables false
namespace Go.Proofs.Ytcklifkbodmoaaa.Pure
open Go.RowKit Go.Proofs.Ytcklifkbodmoaaa.P Go.Proofs.Ytcklifkbodmoaaa.M
open Go.Proofs.YtcklifkbodmoaaaV.PrintWords (rd)

theorem FnPlanConn : laws_FnPlanConn.Pure := by
  intro c _ hl hw
  by_cases hC : (c.length : Int) > 1048576
  · exact ⟨0, by unfold laws_FnPlanConn.f; rw [if_pos hC]⟩
  apply Ev.get
  unfold laws_FnPlanConn.f
  refine Ev.neg hC ?_
  obtain ⟨s, ch, l, src, t0, hd, s0, s1, l0, r0, r1, t0l, t0h⟩ := drawPlanAll_ev (by omega) hw
  have hll : l.length ≤ 1048576 := by omega
  have hi := impl_PlanAll_ev s ch l src t0 hll
  have hs := spec_PlanAll_ev s ch l src t0 hll
  have hR := planAll_short s ch l src t0
  have hwk := wkInts_self (planAll s ch l src t0) (by omega)
  refine Ev.bind hd (Ev.bind hi (Ev.bind hs (Ev.bind hwk (Ev.pos rfl ?_))))
  by_cases h : planInB s ch l src t0 = true
  rotate_left
  · have e := planAll_empty h
    rw [e] at hwk hs ⊢
    refine Ev.step (fun m => by simp only [laws_FnPlanConn.j0] <;> rfl) (Ev.pos (by simp) ?_)
    exact Ev.bind hs (Ev.bind hwk (Ev.ret _))
  · obtain ⟨ok, hch, hsr, ht⟩ := planIn_all h
    have hlen := planAll_len h
    have hA := planAll_arr h
    have hlate : ∀ k, (∃ n, Ont l ch src t0 n k) → k < l.length ∧ t0 ≤ (cn l k).f2 := fun k ⟨n, hk⟩ => ⟨hk.lt, hk.late ok hch⟩
    have hbnd := fun v h0 h1 => hA.bnd (v := v) ok hlate ht.2 h0 h1
    have c0 := ok.c0
    have c1 := ok.c1
    generalize planAll s ch l src t0 = R at hi hs hR hwk hlen hA hbnd ⊢
    have hb0 : ((R.length : Int) == 0) = false := beq_eq_false_iff_ne.mpr (by omega)
    rw [hb0]
    refine Ev.step (fun m => by simp only [laws_FnPlanConn.j0] <;> rfl) (Ev.neg (by simp) ?_)
    refine downto (P := fun i => Ev (fun m => laws_FnPlanConn.l0 m src t0 R (i : Int) s ch l) true) (n := l.length) ?_ ?_
    · exact Ev.step (fun m => by simp only [laws_FnPlanConn.l0]; rw [if_neg (by omega)]) (Ev.ret _)
    · intro i hi' hnext
      have a := ok.at_ i hi'
      have j4f : ∀ (k : Nat) a0 a1 a2 a3 a4 b, Ev (fun m => laws_FnPlanConn.j4 m src t0 R (i : Int) b (k : Int) false s ch l a0 a1 a2 a3 a4) true := by
        intro k a0 a1 a2 a3 a4 b
        refine Ev.step (fun m => by simp only [laws_FnPlanConn.j4] <;> rfl) (Ev.neg (by simp) ?_)
        rw [w64s (by omega)]
        exact hnext
      have go : ∀ b, (b = true → ∃ n, Ont l ch src t0 n i) → Ev (fun m => laws_FnPlanConn.j2 m src t0 R (i : Int) b s ch l (cn l i).f0 (cn l i).f1 (cn l i).f2 (cn l i).f3 (cn l i).f4) true := by
        intro b hb
        refine Ev.step (fun m => by simp only [laws_FnPlanConn.j2] <;> rfl) ?_
        cases b with
        | false =>
          refine Ev.step (fun m => by simp only [laws_FnPlanConn.l1]; rw [if_pos (by omega)]) (j4f i _ _ _ _ _ _)
        | true =>
          obtain ⟨n, hn⟩ := hb rfl
          have key : ∀ (u k : Nat), i ≤ k → k + u = l.length → Ev (fun m => laws_FnPlanConn.l1 m src t0 R (i : Int) true (k : Int) s ch l (cn l i).f0 (cn l i).f1 (cn l i).f2 (cn l i).f3 (cn l i).f4) true := by
            intro u
            induction u with
            | zero =>
              intro k _ hk
              exact Ev.step (fun m => by simp only [laws_FnPlanConn.l1]; rw [if_neg (by omega)]) (j4f k _ _ _ _ _ _)
            | succ u ih =>
              intro k hik hk
              have b := ok.at_ k (by omega)
              have hnx := ih (k + 1) (by omega) (by omega)
              refine Ev.step (fun m => by simp only [laws_FnPlanConn.l1]; rw [if_pos (by omega)]) ?_
              refine Ev.step (fun m => by simp only [laws_FnPlanConn.j4] <;> rfl) (Ev.pos (by trivial) ?_)
              refine Ev.pos (by omega) (Ev.pos (by omega) ?_)
              rw [rdT_cn, w64s (by omega)]
              by_cases ht' : (cn l k).f4 = (cn l i).f4
              · refine Ev.pos ht' (Ev.pos b.2.2.1 (Ev.pos (by omega) (Ev.neg ?_ hnx)))
                have hk' := hn.stay k hik (by omega) ht'.symm
                by_cases e : (cn l k).f1 = src
                · have := hk'.late ok hch
                  rw [e, hA.src_]
                  omega
                · have := hA.low k ⟨n, hk'⟩ e
                  omega
              · exact Ev.neg ht' hnx
          exact key (l.length - i) i (Nat.le_refl _) (by omega)
      refine Ev.step (fun m => by simp only [laws_FnPlanConn.l0]; rw [if_pos (by omega), if_pos (by omega)]) ?_
      simp only [rdT_cn]
      by_cases c2 : (cn l i).f0 = src
      · refine Ev.pos c2 ?_
        by_cases c3 : t0 ≤ (cn l i).f2
        · exact Ev.pos c3 (go true (fun _ => ⟨1, .base (by omega) hi' c2 c3⟩))
        · exact Ev.neg c3 (go false (fun h => by simp at h))
      · refine Ev.neg c2 (Ev.pos a.1 (Ev.pos (by omega) ?_))
        by_cases c3 : rd R (cn l i).f0 < 99999
        · have := hbnd (cn l i).f0 a.1 a.2.1
          rw [w64 (by omega)]
          refine Ev.pos c3 (go _ (fun hb => ?_))
          have hb := of_decide_eq_true hb
          rcases hA.is_ (cn l i).f0 a.1 a.2.1 c2 with h1 | ⟨j, ⟨n, hj⟩, h1, h2⟩
          · omega
          · exact ⟨n + 1, .step hi' hj.lt h1 (by omega) hj⟩
        · exact Ev.neg c3 (go false (fun h => by simp at h))
end Go.Proofs.Ytcklifkbodmoaaa.Pure
