/- FnCostOf is true of every code: of a drawn net, and how much costs and tolls count, they count as much as they are to count. -/
import Derived.Test.YtjmpngfgfddpaaaPFLawsFncostof
import Derived.Test.YtjmpngfgfddpaaaMCostOf
import Derived.Test.YtjmpngfgfddpaaaMPriced
import Derived.Test.YtjmpngfgfddpaaaMWk
import Derived.Test.YtjmpngfgfddpaaaMDraw
import Derived.Test.YtjmpngfgfddpaaaMWalk
set_option linter.unusedVariables false
namespace Go.Proofs.Ytjmpngfgfddpaaa.Pure
open Go.RowKit Go.Proofs.Ytjmpngfgfddpaaa.P Go.Proofs.Ytjmpngfgfddpaaa.M
open Go.Proofs.YtjmpngfgfddpaaaV.PrintWords (rd mx mn)

theorem drawCostOf_ev {c : List Int} (hl : c.length ≤ 1048576) (hw : ∀ x ∈ c, (Lit.int .u8 x).wf = true) : ∃ (n : Int) (l : List S33) (a t : Int), Ev (fun k => spec_DrawCostOf.f k c) (n, l, a, t) ∧ l.length ≤ 13 ∧ (a = 100 ∨ a = 50 ∨ a = 0 ∨ a = 101) ∧ (t = 0 ∨ t = 100 ∨ t = 30 ∨ t = -1) := by
  obtain ⟨b, e0, hb⟩ := open_ev hl hw
  obtain ⟨n, l, p, e1, n0, n1, l0, la, p0, p1⟩ := anyNet_ev hb (p := 0) (by omega) (by omega)
  obtain ⟨a, e2, ha⟩ := one_ev (b := b) (p := p) [100, 50, 0, 101] hb (by omega) (by omega) (by simp)
  obtain ⟨t, e3, ht⟩ := one_ev (b := b) (p := p + 1) [0, 100, 30, -1] hb (by omega) (by omega) (by simp)
  simp only [List.mem_cons, List.not_mem_nil, or_false] at ha ht
  refine ⟨n, l, a, t, ?_, l0, ha, ht⟩
  unfold spec_DrawCostOf.f
  rw [e0]
  simp only [Option.bind_some]
  exact Ev.bind e1 (Ev.bind e2 (Ev.bind e3 (Ev.ret _)))
theorem prod_in {x c : Int} (hx : 0 ≤ x ∧ x ≤ 99) (hc : 0 ≤ c ∧ c ≤ 100) : 0 ≤ x * c ∧ x * c ≤ x * 100 ∧ x * 100 ≤ 9900 := by
  refine ⟨Int.mul_nonneg hx.1 hc.1, Int.mul_le_mul_of_nonneg_left hc.2 hx.1, by omega⟩
theorem costOne_val {x : S33} (h2 : 0 ≤ x.f2 ∧ x.f2 ≤ 99) (h3 : 0 ≤ x.f3 ∧ x.f3 ≤ 99) {c t : Int} (hc : 0 ≤ c ∧ c ≤ 100) (ht : 0 ≤ t ∧ t ≤ 100) : costOne c t x = if (x.f2 * c + x.f3 * t) / 100 > 99 then 99 else (x.f2 * c + x.f3 * t) / 100 := by
  have p := prod_in h2 hc
  have q := prod_in h3 ht
  unfold costOne mn
  generalize x.f2 * c = u at p
  generalize x.f3 * t = v at q
  rw [w64 (n := u) (by omega), w64 (n := v) (by omega), w64 (n := u + v) (by omega), Int.tdiv_eq_ediv_of_nonneg (by omega), w64 (by omega)]
theorem netOk_arc {n : Int} {l : List S33} (h : netOkB n l = true) : ∀ x ∈ l, (0 ≤ x.f2 ∧ x.f2 ≤ 99) ∧ (0 ≤ x.f3 ∧ x.f3 ≤ 99) := by
  intro x hx
  simp only [netOkB, Bool.and_eq_true, Bool.not_eq_true', decide_eq_true_eq, List.any_eq_false] at h
  have hb := Bool.eq_false_iff.2 (h.2 x hx)
  simp only [badArc, inB, costB, loadB, Bool.or_eq_false_iff, Bool.not_eq_false', Bool.and_eq_true, decide_eq_true_eq, beq_eq_false_iff_ne] at hb
  obtain ⟨⟨⟨⟨⟨⟨a, b⟩, c, d⟩, e⟩, f⟩, g⟩, i⟩ := hb
  exact ⟨f, g⟩
theorem FnCostOf : laws_FnCostOf.Pure := by
  intro c _ hl hw
  by_cases hC : (c.length : Int) > 1048576
  · exact ⟨0, by unfold laws_FnCostOf.f; rw [if_pos hC]⟩
  apply Ev.get
  unfold laws_FnCostOf.f
  refine Ev.neg hC ?_
  obtain ⟨n, l, a, t, hd, l0, ha, ht⟩ := drawCostOf_ev (by omega) hw
  have hll : l.length ≤ 1048576 := by omega
  have hR := costsOf_length a t n l
  have hi := impl_CostOf_ev n a t l hll
  have hs := spec_CostOf_ev n a t l hll
  have hwk := wkInts_self (costsOf a t n l) (by omega)
  have hj : Ev (fun k => laws_FnCostOf.j0 k a t (costsOf a t n l) true n l) true := by
    refine Ev.step (fun k => by simp only [laws_FnCostOf.j0]; rfl) ?_
    exact Ev.pos (by trivial) (Ev.bind hs (Ev.bind hwk (Ev.ret _)))
  refine Ev.bind hd (Ev.bind hi (Ev.bind hs (Ev.bind hwk (Ev.pos rfl ?_))))
  unfold impl_NetOk.f
  simp only [Option.bind_some]
  by_cases h : netOkB n l = true
  rotate_left
  · exact Ev.neg h hj
  · refine Ev.pos h ?_
    by_cases hgt : a > 100
    · exact Ev.pos hgt hj
    · refine Ev.neg hgt ?_
      by_cases hlt : t < 0
      · rw [decide_eq_true hlt]
        exact hj
      · rw [decide_eq_false hlt]
        have hca : 0 ≤ a ∧ a ≤ 100 := by omega
        have hct : 0 ≤ t ∧ t ≤ 100 := by omega
        have hval : ∀ a' t' : Int, 0 ≤ a' ∧ a' ≤ 100 → 0 ≤ t' ∧ t' ≤ 100 → costsOf a' t' n l = l.map (costOne a' t') := by
          intro a' t' ha' ht'
          unfold costsOf okOf
          rw [h, decide_eq_true ha'.1, decide_eq_true ha'.2, decide_eq_true ht'.1, decide_eq_true ht'.2]
          rfl
        have h1 := hval a t hca hct
        have h2 := hval 100 0 (by omega) (by omega)
        have h3 := hval 0 100 (by omega) (by omega)
        have h4 := hval 100 100 (by omega) (by omega)
        have i2 := impl_CostOf_ev n 100 0 l hll
        have i3 := impl_CostOf_ev n 0 100 l hll
        have i4 := impl_CostOf_ev n 100 100 l hll
        rw [h2] at i2
        rw [h3] at i3
        rw [h4] at i4
        rw [h1]
        refine Ev.step (fun k => by simp only [laws_FnCostOf.j0]; rfl) ?_
        refine Ev.neg (by simp) (Ev.bind i2 (Ev.bind i3 (Ev.bind i4 ?_)))
        refine downto (P := fun i => Ev (fun k => laws_FnCostOf.l0 k (l.map (costOne a t)) (l.map (costOne 100 0)) (l.map (costOne 0 100)) (l.map (costOne 100 100)) (i : Int) n l) true) (n := l.length) ?_ ?_
        · have hm : metricB n l (l.map (costOne a t)) = true := by
            unfold metricB costsB
            rw [h]
            simp only [List.length_map, decide_true, Bool.true_and, List.all_eq_true, List.mem_map]
            rintro y ⟨x, hx, rfl⟩
            obtain ⟨x2, x3⟩ := netOk_arc h x hx
            have p := prod_in x2 hca
            have q := prod_in x3 hct
            rw [costOne_val x2 x3 hca hct]
            unfold costB
            simp only [Bool.and_eq_true, decide_eq_true_eq]
            split <;> omega
          have hcn := impl_CostNet_ev n l (l.map (costOne a t)) hll
          unfold costNet at hcn
          rw [if_pos hm] at hcn
          refine Ev.step (fun k => by simp only [laws_FnCostOf.l0]; rw [if_neg (by omega)]) ?_
          exact Ev.bind hcn (Ev.pos rfl ((Ev.ret _).eq (by simp)))
        · intro i hi' hnext
          have hx := List.getElem_mem hi'
          obtain ⟨x2, x3⟩ := netOk_arc h _ hx
          have p := prod_in x2 hca
          have q := prod_in x3 hct
          have g : ∀ a' t' : Int, rd (l.map (costOne a' t')) (i : Int) = costOne a' t' l[i] := fun a' t' => by
            rw [rd_at0 _ i (by simp; exact hi')]
            simp
          refine Ev.step (fun k => ?_) hnext
          simp only [laws_FnCostOf.l0, g, List.length_map]
          rw [rd_T33_at l i hi', costOne_val x2 x3 hca hct, costOne_val x2 x3 (c := 100) (t := 0) (by omega) (by omega), costOne_val x2 x3 (c := 0) (t := 100) (by omega) (by omega), costOne_val x2 x3 (c := 100) (t := 100) (by omega) (by omega)]
          generalize l[i].f2 * a = u at p
          generalize l[i].f3 * t = v at q
          rw [if_pos (by omega), if_pos (by omega), if_pos (by omega), if_pos (by split <;> omega), if_pos (by omega), if_pos (by split <;> omega), if_pos (by omega), if_pos (by omega), if_neg (by split <;> split <;> omega), if_neg (by split <;> omega), w64s (by omega)]
end Go.Proofs.Ytjmpngfgfddpaaa.Pure
