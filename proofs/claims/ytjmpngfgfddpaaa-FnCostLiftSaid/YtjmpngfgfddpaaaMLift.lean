/- CostLift, the program's and the specification's. -/
import Derived.Test.YtjmpngfgfddpaaaMPriced
import Derived.Test.YtjmpngfgfddpaaaPFImplCostlift
import Derived.Test.YtjmpngfgfddpaaaPFSpecCostlift
set_option linter.unusedVariables false
namespace Go.Proofs.Ytjmpngfgfddpaaa.M
open Go.RowKit Go.Proofs.Ytjmpngfgfddpaaa.P Go.Proofs.YtjmpngfgfddpaaaV.PrintWords Go.Proofs.YtjmpngfgfddpaaaV.PrintMore

/-- one arc's cost with heights -/
def liftOne (high : List Int) (x : S33) : Int := wrap64 ((wrap64 (x.f2 - rd high x.f0)) + rd high x.f1)
def liftB (nodes : Int) (l : List S33) (high : List Int) : Bool := netOkB nodes l && (decide ((high.length : Int) = nodes) && high.all costB)
def lifted (nodes : Int) (l : List S33) (high : List Int) : List Int × Bool :=
  if liftB nodes l high = true ∧ metricB nodes l (l.map (liftOne high)) = true then (l.map (liftOne high), true) else ([], false)
theorem netOk_arc {nodes : Int} {l : List S33} (h : netOkB nodes l = true) {x : S33} (hx : x ∈ l) : 0 ≤ x.f0 ∧ x.f0 < nodes ∧ 0 ≤ x.f1 ∧ x.f1 < nodes ∧ x.f0 ≠ x.f1 ∧ 0 ≤ x.f2 ∧ x.f2 ≤ 99 ∧ 0 ≤ x.f3 ∧ x.f3 ≤ 99 ∧ 0 ≤ x.f4 ∧ x.f4 ≤ 9 := by
  simp only [netOkB, Bool.and_eq_true, Bool.not_eq_true', decide_eq_true_eq, List.any_eq_false] at h
  obtain ⟨⟨⟨h1, h2⟩, h3⟩, h4⟩ := h
  have hb := Bool.eq_false_iff.2 (h4 x hx)
  simp only [badArc, inB, costB, loadB, Bool.or_eq_false_iff, Bool.not_eq_false', Bool.and_eq_true, decide_eq_true_eq, beq_eq_false_iff_ne] at hb
  rw [w64 (by omega)] at hb
  obtain ⟨⟨⟨⟨⟨⟨a, b⟩, c, d⟩, e⟩, f⟩, g⟩, i⟩ := hb
  exact ⟨a, by omega, c, by omega, e, f.1, f.2, g.1, g.2, i.1, i.2⟩
theorem netOk_bounds {nodes : Int} {l : List S33} (h : netOkB nodes l = true) : 1 ≤ nodes ∧ nodes ≤ 8 ∧ l.length ≤ 16 := by
  simp only [netOkB, Bool.and_eq_true, decide_eq_true_eq] at h
  exact ⟨h.1.1.1, h.1.1.2, h.1.2⟩
theorem impl_CostLift_ev (nodes : Int) (l : List S33) (high : List Int) (hl : l.length ≤ 1048576) : Ev (fun k => impl_CostLift.f k nodes l high) (lifted nodes l high) := by
  have hno : liftB nodes l high = false → Ev (fun k => impl_CostLift.j0 k high true nodes l) (lifted nodes l high) := by
    intro h
    unfold lifted
    rw [if_neg (by simp [h])]
    exact Ev.step (G := fun _ => some ([], false)) (fun k => by simp only [impl_CostLift.j0, if_true]) (Ev.ret _)
  unfold impl_CostLift.f impl_NetOk.f contains_CostLift1.f
  simp only [Option.bind_some]
  by_cases h0 : netOkB nodes l = true
  rotate_left
  · exact Ev.neg h0 (hno (by simp [liftB, h0]))
  refine Ev.pos h0 ?_
  by_cases h1 : (high.length : Int) = nodes
  rotate_left
  · exact Ev.neg h1 (hno (by simp [liftB, h1]))
  refine Ev.pos h1 ?_
  by_cases h2 : high.all costB = true
  rotate_left
  · have : (high.any fun n => !costB n) = true := by
      have := any_not_all high
      rw [Bool.eq_false_iff.2 h2] at this
      simpa using this
    rw [this]
    exact hno (by simp [liftB, h2])
  have hany : (high.any fun n => !costB n) = false := by
    have := any_not_all high
    rw [h2] at this
    simpa using this
  rw [hany]
  have hL : liftB nodes l high = true := by simp [liftB, h0, h1, h2]
  refine Ev.step (G := fun k => impl_CostLift.l0 k high [] l l.length 0 nodes l) (fun k => by simp only [impl_CostLift.j0]; rw [if_neg (by simp), if_pos (by omega), if_pos (by omega)]) ?_
  have hP := downto (P := fun i => Ev (fun k => impl_CostLift.l0 k high ((l.take i).map (liftOne high)) l l.length (i : Int) nodes l) (lifted nodes l high)) (n := l.length) ?_ ?_
  · simpa using hP
  · refine Ev.step (G := fun _ => some (lifted nodes l high)) (fun k => ?_) (Ev.ret _)
    simp only [impl_CostLift.l0]
    rw [if_neg (by omega), List.take_length, impl_metricOk_eq, Option.bind_some]
    unfold lifted
    by_cases hm : metricB nodes l (l.map (liftOne high)) = true
    · rw [if_pos hm, if_pos ⟨hL, hm⟩]
    · rw [if_neg hm, if_neg (fun h => hm h.2)]
  · intro i hi h
    refine Ev.step (fun k => ?_) h
    obtain ⟨a, b, c, d, _⟩ := netOk_arc h0 (List.getElem_mem hi)
    simp only [impl_CostLift.l0]
    rw [if_pos (by omega), if_pos (by omega), if_pos (by omega), rd_T33_at l i hi, if_pos a, if_pos (by omega), if_pos c, if_pos (by omega), if_pos (by simp; omega), w64s (by omega), List.take_succ_eq_append_getElem hi, List.map_append]
    rfl
theorem spec_CostLift_ev (nodes : Int) (l : List S33) (high : List Int) (hl : l.length ≤ 1048576) (hh : high.length ≤ 1048576) : Ev (fun k => spec_CostLift.f k nodes l high) (lifted nodes l high) := by
  have hno : liftB nodes l high = false → Ev (fun _ => some ([], false)) (lifted nodes l high) := by
    intro h
    unfold lifted
    rw [if_neg (by simp [h])]
    exact Ev.ret _
  have hj : liftB nodes l high = false → Ev (fun k => spec_CostLift.j0 k high [] true nodes l) (lifted nodes l high) := fun h => Ev.step (fun k => by simp only [spec_CostLift.j0, if_true]) (hno h)
  refine Ev.congr (G := fun k => (spec_l1Ok.f k nodes l).bind fun t105 => (if t105 = true then (spec_CostLift.j0 k high [] ((high.length : Int) != nodes) nodes l) else (spec_CostLift.j0 k high [] true nodes l))) (fun k => by unfold spec_CostLift.f; rfl) ?_
  refine Ev.bind (l1Ok_netOkB nodes l (by omega)) ?_
  by_cases h0 : netOkB nodes l = true
  rotate_left
  · exact Ev.neg h0 (hj (by simp [liftB, h0]))
  refine Ev.pos h0 ?_
  by_cases h1 : (high.length : Int) = nodes
  rotate_left
  · rw [show ((high.length : Int) != nodes) = true by simp [h1]]
    exact hj (by simp [liftB, h1])
  rw [show ((high.length : Int) != nodes) = false by simp [h1]]
  refine Ev.step (G := fun k => spec_CostLift.l0 k high [] 0 nodes l) (fun k => by simp only [spec_CostLift.j0]; rw [if_neg (by simp)]) ?_
  have hlift : ∀ i, i ≤ high.length → ((high.take i).all costB = true) → Ev (fun k => spec_CostLift.l0 k high [] (i : Int) nodes l) (lifted nodes l high) := by
    intro i hi hall
    obtain ⟨d, hd⟩ : ∃ d, i + d = high.length := ⟨high.length - i, by omega⟩
    induction d generalizing i with
    | zero =>
      have hi' : i = high.length := by omega
      subst hi'
      rw [List.take_length] at hall
      have hL : liftB nodes l high = true := by simp [liftB, h0, h1, hall]
      refine Ev.step (G := fun k => spec_CostLift.l1 k high [] 0 nodes l) (fun k => by simp only [spec_CostLift.l0]; rw [if_neg (by omega)]) ?_
      have hP := downto (P := fun i => Ev (fun k => spec_CostLift.l1 k high ((l.take i).map (liftOne high)) (i : Int) nodes l) (lifted nodes l high)) (n := l.length) ?_ ?_
      · simpa using hP
      · refine Ev.step (G := fun k => (spec_l9Ok.f k nodes l (l.map (liftOne high))).bind fun t115 => (if t115 = true then (some (l.map (liftOne high), true)) else (some (([] : List Int), false)))) (fun k => ?_) (Ev.bind (spec_l9Ok_ev nodes l _ (by simp; omega)) ?_)
        · simp only [spec_CostLift.l1]
          rw [if_neg (by omega), List.take_length]
        · refine Ev.of (fun _ => ?_)
          unfold lifted
          by_cases hm : costsB l (l.map (liftOne high)) = true
          · rw [if_pos hm, if_pos ⟨hL, by simp [metricB, h0, hm]⟩]
          · rw [if_neg hm, if_neg (fun h => hm (by have := h.2; simp only [metricB, Bool.and_eq_true] at this; exact this.2))]
      · intro i hi h
        refine Ev.step (fun k => ?_) h
        obtain ⟨a, b, c, d, _⟩ := netOk_arc h0 (List.getElem_mem hi)
        simp only [spec_CostLift.l1]
        rw [if_pos (by omega), if_pos (by omega), rd_T33_at l i hi, if_pos a, if_pos (by omega), if_pos c, if_pos (by omega), if_pos (by simp; omega), w64s (by omega), List.take_succ_eq_append_getElem hi, List.map_append]
        rfl
    | succ d ih =>
      have hlt : i < high.length := by omega
      by_cases hb : costB high[i] = true
      · refine Ev.step (fun k => ?_) (ih (i + 1) (by omega) (by rw [List.take_succ_eq_append_getElem hlt, List.all_append, hall]; simp [hb]) (by omega))
        simp only [spec_CostLift.l0]
        rw [if_pos (by omega), if_pos (by omega), rd_at0 _ i hlt, l1In_cost, Option.bind_some, if_pos hb, w64s (by omega)]
      · refine Ev.step (fun k => ?_) (hno ?_)
        · simp only [spec_CostLift.l0]
          rw [if_pos (by omega), if_pos (by omega), rd_at0 _ i hlt, l1In_cost, Option.bind_some, if_neg hb]
        · have : high.all costB = false := by
            rw [List.all_eq_false]
            exact ⟨high[i], List.getElem_mem hlt, hb⟩
          simp [liftB, this]
  exact hlift 0 (by omega) rfl
theorem lifted_length (nodes : Int) (l : List S33) (high : List Int) : (lifted nodes l high).1.length ≤ l.length := by
  unfold lifted
  split <;> simp
end Go.Proofs.Ytjmpngfgfddpaaa.M
