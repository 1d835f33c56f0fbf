/- FnPlanAll is true of every code: of a drawn timetable, a stop and a time, each arrival is one of a connection, and who is there later does not come earlier. -/
import Derived.Test.YtcklifkbodmoaaaPFLawsFnplanall
import Derived.Test.YtcklifkbodmoaaaMPlanLaw
import Derived.Test.YtcklifkbodmoaaaPFSpecPlanok
set_option linter.unusedVariables false
namespace Go.Proofs.Ytcklifkbodmoaaa.Pure
open Go.RowKit Go.Proofs.Ytcklifkbodmoaaa.P Go.Proofs.Ytcklifkbodmoaaa.M
open Go.Proofs.YtcklifkbodmoaaaV.PrintWords (rd)

theorem specPlanOk_ev (s ch : Int) (l : List Cn) (hl : l.length ≤ 1048576) : Ev (fun m => spec_PlanOk.f m s ch l) (planOkB s ch l) := by
  unfold spec_PlanOk.f
  exact Ev.bind (l6Ok_ev s ch l hl) (Ev.ret _)
theorem is_loop {s ch src t0 : Int} {l : List Cn} {R : List Int} (hl : l.length ≤ 1048576) {k : Nat} (hk : k < R.length) (ht : ¬ rd R (k : Int) < t0)
    (hnext : Ev (fun m => laws_FnPlanAll.l0 m src t0 R (wrap64 ((k : Int) + 1)) s ch l) true) : ∀ (u i : Nat) (b : Bool), i + u = l.length → (b = true ∨ ∃ j, i ≤ j ∧ j < l.length ∧ (cn l j).f1 = (k : Int) ∧ (cn l j).f3 = rd R (k : Int)) →
    Ev (fun m => laws_FnPlanAll.l1 m src t0 R (k : Int) b (i : Int) s ch l) true
  | 0, i, b, hi, hb => by
    have hbt : b = true := by
      rcases hb with h | ⟨j, h1, h2, _⟩
      · exact h
      · omega
    subst hbt
    refine Ev.step (fun m => by simp only [laws_FnPlanAll.l1]; rw [if_neg (by omega)]) ?_
    exact Ev.pos (by trivial) (Ev.pos (by omega) (Ev.pos (by omega) (Ev.neg ht hnext)))
  | u + 1, i, b, hi, hb => by
    have hil : i < l.length := by omega
    have ih := fun b' => is_loop hl hk ht hnext u (i + 1) b' (by omega)
    refine Ev.step (fun m => by simp only [laws_FnPlanAll.l1]; rw [if_pos (by omega), w64s (by omega)]) ?_
    cases b with
    | true => exact Ev.pos (by trivial) (ih true (.inl rfl))
    | false =>
      refine Ev.neg (by simp) (Ev.pos (by omega) ?_)
      rw [rdT_cn]
      obtain ⟨j, h1, h2, h3, h4⟩ := hb.resolve_left (by simp)
      by_cases hf : (cn l i).f1 = (k : Int)
      · refine Ev.pos hf (Ev.pos (by omega) (Ev.pos (by omega) (ih _ ?_)))
        by_cases he : (cn l i).f3 = rd R (k : Int)
        · exact .inl (by simp [he])
        · refine .inr ⟨j, ?_, h2, h3, h4⟩
          rcases Nat.lt_or_ge i j with h | h
          · exact h
          · obtain rfl : j = i := by omega
            exact absurd h4 he
      · refine Ev.neg hf (ih false (.inr ⟨j, ?_, h2, h3, h4⟩))
        rcases Nat.lt_or_ge i j with h | h
        · exact h
        · obtain rfl : j = i := by omega
          exact absurd h3 hf
theorem FnPlanAll : laws_FnPlanAll.Pure := by
  intro c _ hl hw
  by_cases hC : (c.length : Int) > 1048576
  · exact ⟨0, by unfold laws_FnPlanAll.f; rw [if_pos hC]⟩
  apply Ev.get
  unfold laws_FnPlanAll.f
  refine Ev.neg hC ?_
  obtain ⟨s, ch, l, src, t0, hd, s0, s1, l0, r0, r1, t0l, t0h⟩ := drawPlanAll_ev (by omega) hw
  have hll : l.length ≤ 1048576 := by omega
  have hi := impl_PlanAll_ev s ch l src t0 hll
  have hs := spec_PlanAll_ev s ch l src t0 hll
  have hR := planAll_short s ch l src t0
  have hwk := wkInts_self (planAll s ch l src t0) (by omega)
  have hok := planOk_ev s ch l hll
  have hsk := specPlanOk_ev s ch l hll
  refine Ev.bind hd (Ev.bind hi (Ev.bind hs (Ev.bind hwk (Ev.pos rfl (Ev.bind hok (Ev.bind hsk (Ev.neg (by simp) ?_)))))))
  by_cases h : planInB s ch l src t0 = true
  rotate_left
  · have e := planAll_empty h
    rw [e] at hwk hs ⊢
    refine Ev.step (fun m => by simp only [laws_FnPlanAll.j0] <;> rfl) (Ev.pos (by simp) ?_)
    exact Ev.bind hs (Ev.bind hwk (Ev.pos rfl (Ev.bind hok (Ev.bind hsk ((Ev.ret _).eq (by simp))))))
  · obtain ⟨ok, hch, hsr, ht⟩ := planIn_all h
    have hlen := planAll_len h
    have hA := planAll_arr h
    have hlate : ∀ k, (∃ n, Ont l ch src t0 n k) → k < l.length ∧ t0 ≤ (cn l k).f2 := fun k ⟨n, hk⟩ => ⟨hk.lt, hk.late ok hch⟩
    have hbnd := fun v h0 h1 => hA.bnd (v := v) ok hlate ht.2 h0 h1
    have hR' := planAll_short s ch l src (t0 + 1)
    have hi' := impl_PlanAll_ev s ch l src (t0 + 1) hll
    have hle : ∀ v : Int, 0 ≤ v → v < (planAll s ch l src (t0 + 1)).length → v < s ∧ rd (planAll s ch l src t0) v ≤ rd (planAll s ch l src (t0 + 1)) v := by
      intro v h0 h1
      by_cases h' : planInB s ch l src (t0 + 1) = true
      · have := planAll_len h'
        refine ⟨by omega, ?_⟩
        exact hA.le2 ok (fun k hk => (hlate k hk).1) (planAll_arr h') (by omega) (fun k ⟨n, hk⟩ => ⟨n, hk.weak (Int.le_refl _) (by omega)⟩) h0 (by omega)
      · rw [planAll_empty h'] at h1
        simp at h1
        omega
    generalize planAll s ch l src t0 = R at hi hs hR hwk hlen hA hbnd hle ⊢
    generalize planAll s ch l src (t0 + 1) = R' at hR' hi' hle
    have hb0 : ((R.length : Int) == 0) = false := beq_eq_false_iff_ne.mpr (by omega)
    rw [hb0]
    refine Ev.step (fun m => by simp only [laws_FnPlanAll.j0] <;> rfl) (Ev.neg (by simp) ?_)
    refine downto (P := fun k => Ev (fun m => laws_FnPlanAll.l0 m src t0 R (k : Int) s ch l) true) (n := R.length) ?_ ?_
    · refine Ev.step (fun m => by simp only [laws_FnPlanAll.l0]; rw [if_neg (by omega), w64 (by omega)]) (Ev.bind hi' ?_)
      refine downto (P := fun k => Ev (fun m => laws_FnPlanAll.l2 m src t0 R R' (k : Int)) true) (n := R'.length) ?_ ?_
      · refine Ev.step (fun m => by simp only [laws_FnPlanAll.l2]; rw [if_neg (by omega), if_pos hsr.1, if_pos (by omega), hA.src_]) ((Ev.ret _).eq (by simp))
      · intro k hk hnext
        have := hle (k : Int) (by omega) (by omega)
        refine Ev.step (fun m => ?_) hnext
        simp only [laws_FnPlanAll.l2]
        rw [if_pos (by omega), if_pos (by omega), if_pos (by omega), if_neg (by omega), w64s (by omega)]
    · intro k hk hnext
      have hb := hbnd (k : Int) (by omega) (by omega)
      have hnext' : Ev (fun m => laws_FnPlanAll.l0 m src t0 R (wrap64 ((k : Int) + 1)) s ch l) true := by rw [w64s (by omega)]; exact hnext
      have go : ∀ b, (b = true ∨ ∃ j, 0 ≤ j ∧ j < l.length ∧ (cn l j).f1 = (k : Int) ∧ (cn l j).f3 = rd R (k : Int)) → Ev (fun m => laws_FnPlanAll.j2 m src t0 R (k : Int) b s ch l) true := fun b hb' =>
        Ev.step (fun m => by simp only [laws_FnPlanAll.j2] <;> rfl) (is_loop hll hk (by omega) hnext' l.length 0 b (by omega) hb')
      refine Ev.step (fun m => by simp only [laws_FnPlanAll.l0]; rw [if_pos (by omega), if_pos (by omega), if_pos (by omega)]) ?_
      by_cases hf : rd R (k : Int) = 99999
      · exact Ev.pos hf (go true (.inl rfl))
      · refine Ev.neg hf (go _ ?_)
        by_cases e : (k : Int) = src
        · exact .inl (by simp [e])
        · rcases hA.is_ (k : Int) (by omega) (by omega) e with h1 | ⟨j, ⟨n, hj⟩, h1, h2⟩
          · exact absurd h1 hf
          · exact .inr ⟨j, by omega, hj.lt, h1, h2.symm⟩
end Go.Proofs.Ytcklifkbodmoaaa.Pure
