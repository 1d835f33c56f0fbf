/- FnPlanLate is true of every code: of a drawn timetable a trip that is late goes and comes so much later, and one that is late by nothing changes nothing. -/
import Derived.Test.YtcklifkbodmoaaaPFLawsFnplanlate
import Derived.Test.YtcklifkbodmoaaaMLateLaw
namespace Go.Proofs.Ytcklifkbodmoaaa.Pure
open Go.RowKit Go.Proofs.Ytcklifkbodmoaaa.P Go.Proofs.Ytcklifkbodmoaaa.M
theorem FnPlanLate : laws_FnPlanLate.Pure := by
  intro c _ hl hw
  by_cases hC : (c.length : Int) > 1048576
  · exact ⟨0, by unfold laws_FnPlanLate.f; rw [if_pos hC]⟩
  apply Ev.get
  unfold laws_FnPlanLate.f
  refine Ev.neg hC ?_
  obtain ⟨s, ch, l, trip, late, hd, hl15⟩ := drawPlanLate_ev (by omega) hw
  have hi := impl_planLate_ev s ch l trip late (by omega)
  have hs := spec_planLate_ev s ch l trip late (by omega)
  have hc := planLate_len s ch l trip late
  by_cases h : (planOkB s ch l = true ∧ (0 ≤ trip ∧ trip ≤ 5) ∧ (0 ≤ late ∧ late ≤ 199)) ∧ planOkB s ch (lateL trip late l) = true
  rotate_left
  · have e : planLate s ch l trip late = (0, 0, [], false) := by
      unfold planLate
      by_cases h1 : planOkB s ch l = true ∧ (0 ≤ trip ∧ trip ≤ 5) ∧ (0 ≤ late ∧ late ≤ 199)
      · rw [if_pos h1, if_neg (fun h2 => h ⟨h1, h2⟩)]
      · rw [if_neg h1]
    rw [e] at hi hs
    have hwk := wkPlan_self 0 0 [] (by simp)
    refine Ev.bind hd (Ev.bind hi (Ev.bind hs (Ev.neg (by simp) (Ev.bind hwk (Ev.pos rfl ?_)))))
    refine Ev.step (fun k => by simp only [laws_FnPlanLate.j0]; rfl) (Ev.pos (by simp) (Ev.pos (by simp) (Ev.bind hwk (Ev.ret _))))
  · obtain ⟨⟨h1, h2, h3⟩, h4⟩ := h
    have e : planLate s ch l trip late = (s, ch, lateL trip late l, true) := by
      unfold planLate
      rw [if_pos ⟨h1, h2, h3⟩, if_pos h4]
    have e0 : planLate s ch l trip 0 = (s, ch, l, true) := by
      unfold planLate
      rw [if_pos ⟨h1, h2, Int.le_refl _, by omega⟩, late0_self trip (planOk_asc h1), if_pos h1]
    have hi0 := impl_planLate_ev s ch l trip 0 (by omega)
    rw [e0] at hi0
    rw [e] at hi hs
    clear e e0 hc
    have hX : (lateL trip late l).length = l.length := lateL_len _ _ _
    have hok := planOk_ev s ch (lateL trip late l) (by omega)
    rw [h4] at hok
    have hsum := sumC_late trip late l
    have ok1 := (planOk_ok h1).1
    have ok2 := (planOk_ok h4).1
    have hb1 : ∀ x ∈ lateL trip late l, 0 ≤ x.f2 ∧ x.f2 ≤ 199 ∧ 0 ≤ x.f3 ∧ x.f3 ≤ 199 := fun x hx => by
      obtain ⟨k, hk, rfl⟩ := List.getElem_of_mem hx
      have := ok2.at_ k hk
      have e : cn (lateL trip late l) k = (lateL trip late l)[k] := by simp [cn, List.getD, hk]
      rw [e] at this
      omega
    have hb2 : ∀ x ∈ l, 0 ≤ x.f2 ∧ x.f2 ≤ 199 ∧ 0 ≤ x.f3 ∧ x.f3 ≤ 199 := fun x hx => by
      obtain ⟨k, hk, rfl⟩ := List.getElem_of_mem hx
      have := ok1.at_ k hk
      have e : cn l k = l[k] := by simp [cn, List.getD, hk]
      rw [e] at this
      omega
    have hb3 : ∀ x ∈ l.map (shiftC trip late), 0 ≤ x.f2 + x.f3 ∧ x.f2 + x.f3 ≤ 800 := fun x hx => by
      obtain ⟨y, hy, rfl⟩ := List.mem_map.1 hx
      have := hb2 y hy
      unfold shiftC
      split
      · simp only
        omega
      · omega
    have hwX := wkPlan_self s ch (lateL trip late l) (by omega)
    have hwl := wkPlan_self s ch l (by omega)
    generalize lateL trip late l = X at hi hs hX hok hsum hb1 hwX
    have B1 := sumC_bnd (l := X) (B := 800) (by omega) (fun x hx => by have := hb1 x hx; omega)
    have B2 := sumC_bnd (l := l.map (shiftC trip late)) (B := 800) (by omega) hb3
    refine Ev.bind hd (Ev.bind hi (Ev.bind hs (Ev.neg (by simp) (Ev.bind hwX (Ev.pos rfl ?_)))))
    refine Ev.step (fun k => by simp only [laws_FnPlanLate.j0]; rfl) (Ev.neg (by simp) ?_)
    refine downto (P := fun i => Ev (fun k => laws_FnPlanLate.l0 k trip late (sumC (X.take i)) (sumC ((l.map (shiftC trip late)).take i)) (i : Int) s ch l s ch X) true) (n := X.length) ?_ ?_
    · rw [List.take_length, List.take_of_length_le (by rw [List.length_map]; omega)]
      refine Ev.step (fun k => by simp only [laws_FnPlanLate.l0]; rw [if_neg (by omega)]) ?_
      exact Ev.bind hi0 (Ev.bind hok (Ev.pos rfl (Ev.pos (by omega) (Ev.pos hsum (Ev.pos rfl (Ev.bind hwl (Ev.ret _)))))))
    · intro i hi' hnext
      have hil : i < l.length := by omega
      have b1 := hb1 X[i] (List.getElem_mem hi')
      have b2 := hb2 l[i] (List.getElem_mem hil)
      have c1 := B1 i (by omega)
      have c2 := B2 i (by rw [List.length_map]; omega)
      rw [sumC_snoc X i hi', sumC_snoc (l.map (shiftC trip late)) i (by rw [List.length_map]; omega), List.getElem_map] at hnext
      refine Ev.step (fun k => ?_) hnext
      simp only [laws_FnPlanLate.l0]
      rw [if_pos (by omega), if_pos (by omega), if_pos (by omega), rdC_at X i hi', rdC_at l i hil]
      by_cases ht : l[i].f4 = trip
      · have e : shiftC trip late l[i] = ⟨l[i].f0, l[i].f1, l[i].f2 + late, l[i].f3 + late, l[i].f4⟩ := if_pos ht
        rw [if_pos ht, e, w64 (n := sumC (X.take i) + X[i].f2) (by omega), w64 (n := sumC (X.take i) + X[i].f2 + X[i].f3) (by omega), w64 (n := sumC ((l.map (shiftC trip late)).take i) + l[i].f2) (by omega), w64 (n := sumC ((l.map (shiftC trip late)).take i) + l[i].f2 + l[i].f3) (by omega), w64 (n := 2 * late) (by omega), w64 (n := sumC ((l.map (shiftC trip late)).take i) + l[i].f2 + l[i].f3 + 2 * late) (by omega), w64s (by omega)]
        congr 1 <;> (try simp only) <;> omega
      · have e : shiftC trip late l[i] = l[i] := if_neg ht
        rw [if_neg ht, e, w64 (n := sumC (X.take i) + X[i].f2) (by omega), w64 (n := sumC (X.take i) + X[i].f2 + X[i].f3) (by omega), w64 (n := sumC ((l.map (shiftC trip late)).take i) + l[i].f2) (by omega), w64 (n := sumC ((l.map (shiftC trip late)).take i) + l[i].f2 + l[i].f3) (by omega), w64s (by omega)]
        congr 1 <;> omega
end Go.Proofs.Ytcklifkbodmoaaa.Pure
