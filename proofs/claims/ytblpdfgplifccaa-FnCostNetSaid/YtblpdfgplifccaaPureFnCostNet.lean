/- FnCostNet is true of every code: of a drawn net and other costs, the net with these has the same arcs. -/
import Derived.Test.YtblpdfgplifccaaPFLawsFncostnet
import Derived.Test.YtblpdfgplifccaaMPriced
import Derived.Test.YtblpdfgplifccaaMWk
import Derived.Test.YtblpdfgplifccaaMDraw
import Derived.Test.YtblpdfgplifccaaPFSpecDrawcostnet
set_option linter.unusedVariables false
namespace Go.Proofs.Ytblpdfgplifccaa.Pure
open Go.RowKit Go.Proofs.Ytblpdfgplifccaa.P Go.Proofs.Ytblpdfgplifccaa.M
open Go.Proofs.YtblpdfgplifccaaV.PrintWords (rd)

theorem costs_l0 {b : List Int} (hb : Byt b) (n : Int) {l : List S33} (hl : l.length ≤ 13) : ∀ (u i : Nat) (p : Int) (xs : List Int), i + u = l.length → 0 ≤ p → p + 2 * u ≤ 800000 → xs.length = i →
    ∃ (ys : List Int) (p' : Int), Ev (fun k => spec_l30Costs.l0 k xs (i : Int) b p n l) (ys, p') ∧ ys.length ≤ 14
  | 0, i, p, xs, hi, h0, h1, hx => by
    obtain ⟨c, e1, _⟩ := pick_ev (b := b) (p := p) 14 hb h0 (by omega)
    have hx2 : xs.length < 17592186044416 := by omega
    by_cases k0 : c = 0
    · obtain ⟨v, e2, _⟩ := pick_ev (b := b) (p := p + 1) 3 hb (by omega) (by omega)
      refine ⟨xs ++ [v], p + 1 + 1, ?_, by simp; omega⟩
      refine Ev.step (fun k => by simp only [spec_l30Costs.l0]; rw [if_neg (by omega)]) ?_
      exact Ev.bind e1 (Ev.pos k0 (Ev.bind e2 (Ev.pos hx2 (Ev.ret _))))
    · refine ⟨xs, p + 1, ?_, by omega⟩
      refine Ev.step (fun k => by simp only [spec_l30Costs.l0]; rw [if_neg (by omega)]) ?_
      exact Ev.bind e1 (Ev.neg k0 (Ev.ret _))
  | u + 1, i, p, xs, hi, h0, h1, hx => by
    obtain ⟨c, e1, _⟩ := pick_ev (b := b) (p := p) 3 hb h0 (by omega)
    have hx2 : xs.length < 17592186044416 := by omega
    by_cases k0 : c = 0
    · obtain ⟨v, e2, _⟩ := one_ev (b := b) (p := p + 1) [0, 1, 7, 99] hb (by omega) (by omega) (by simp)
      obtain ⟨ys, p', f1, f2⟩ := costs_l0 hb n hl u (i + 1) (p + 1 + 1) (xs ++ [v]) (by omega) (by omega) (by omega) (by simp; omega)
      refine ⟨ys, p', ?_, f2⟩
      refine Ev.step (fun k => by simp only [spec_l30Costs.l0]; rw [if_pos (by omega), if_pos (by omega), w64s (by omega)]) ?_
      exact Ev.bind e1 (Ev.pos k0 (Ev.bind e2 (Ev.pos hx2 f1)))
    · obtain ⟨ys, p', f1, f2⟩ := costs_l0 hb n hl u (i + 1) (p + 1) (xs ++ [(rd_T33 l (i : Int)).f2]) (by omega) (by omega) (by omega) (by simp; omega)
      refine ⟨ys, p', ?_, f2⟩
      refine Ev.step (fun k => by simp only [spec_l30Costs.l0]; rw [if_pos (by omega), if_pos (by omega), w64s (by omega)]) ?_
      exact Ev.bind e1 (Ev.neg k0 (Ev.pos hx2 f1))
theorem drawCostNet_ev {c : List Int} (hl : c.length ≤ 1048576) (hw : ∀ x ∈ c, (Lit.int .u8 x).wf = true) : ∃ (n : Int) (l : List S33) (cs : List Int), Ev (fun k => spec_DrawCostNet.f k c) (n, l, cs) ∧ l.length ≤ 13 ∧ cs.length ≤ 14 := by
  obtain ⟨b, e0, hb⟩ := open_ev hl hw
  obtain ⟨n, l, p, e1, n0, n1, l0, la, p0, p1⟩ := anyNet_ev hb (p := 0) (by omega) (by omega)
  obtain ⟨ys, p', e2, y0⟩ := costs_l0 hb n l0 l.length 0 p [] (by omega) (by omega) (by omega) rfl
  refine ⟨n, l, ys, ?_, l0, y0⟩
  unfold spec_DrawCostNet.f
  rw [e0]
  simp only [Option.bind_some]
  exact Ev.bind e1 (Ev.bind (by unfold spec_l30Costs.f; exact e2) (Ev.ret _))
theorem wkNet_self (n : Int) (l : List S33) (hl : l.length ≤ 1048576) : Ev (fun k => laws_wkNet.f k n l n l) true := by
  unfold laws_wkNet.f
  refine Ev.pos rfl ?_
  rw [show ((l.length : Int) != (l.length : Int)) = false by simp]
  refine Ev.step (fun k => by simp only [laws_wkNet.j0]; rfl) (Ev.neg (by simp) ?_)
  refine downto (P := fun i => Ev (fun k => laws_wkNet.l0 k (i : Int) n l n l) true) (n := l.length) ?_ ?_
  · refine Ev.step (G := fun _ => some true) (fun k => ?_) (Ev.ret _)
    simp only [laws_wkNet.l0]
    rw [if_neg (by omega)]
  · intro i hi h
    refine Ev.step (fun k => ?_) h
    simp only [laws_wkNet.l0]
    rw [if_pos (by omega), if_pos (by omega), if_pos (by omega), if_neg (by simp), w64s (by omega)]
theorem priced_at (cs : List Int) (l : List S33) (i : Nat) (hi : i < l.length) : rd_T33 (priced cs l) (i : Int) = ⟨l[i].f0, l[i].f1, cs.getD i 0, l[i].f3, l[i].f4⟩ := by
  rw [rd_T33_at _ i (by rw [priced_length]; exact hi)]
  simp [priced]
theorem netOk_priced {n : Int} {l : List S33} {cs : List Int} (h : metricB n l cs = true) : netOkB n (priced cs l) = true := by
  have hcl := metricB_length h
  simp only [metricB, costsB, Bool.and_eq_true, decide_eq_true_eq, List.all_eq_true] at h
  obtain ⟨h1, _, h2⟩ := h
  simp only [netOkB, Bool.and_eq_true, Bool.not_eq_true', decide_eq_true_eq, List.any_eq_false, priced_length] at h1 ⊢
  refine ⟨h1.1, fun x hx => ?_⟩
  obtain ⟨i, hi, rfl⟩ := List.getElem_of_mem hx
  rw [priced_length] at hi
  have hb := h1.2 _ (List.getElem_mem hi)
  have hc := h2 _ (List.getElem_mem (show i < cs.length by omega))
  have he : (priced cs l)[i]'(by rw [priced_length]; exact hi) = ⟨l[i].f0, l[i].f1, cs[i], l[i].f3, l[i].f4⟩ := by
    simp [priced, hcl, hi]
  rw [he]
  unfold badArc at hb ⊢
  simp only [hc]
  simp only [Bool.not_true, Bool.or_false]
  intro hx
  apply hb
  simp only [Bool.or_eq_true] at hx ⊢
  rcases hx with (hx | hx) | hx
  · exact .inl (.inl (.inl hx))
  · exact .inl (.inr hx)
  · exact .inr hx
theorem priced_back {l : List S33} {cs : List Int} : priced (l.map (·.f2)) (priced cs l) = l := by
  apply List.ext_getElem (by simp [priced_length])
  intro i h1 h2
  simp [priced, h2]
theorem FnCostNet : laws_FnCostNet.Pure := by
  intro c _ hl hw
  by_cases hC : (c.length : Int) > 1048576
  · exact ⟨0, by unfold laws_FnCostNet.f; rw [if_pos hC]⟩
  apply Ev.get
  unfold laws_FnCostNet.f
  refine Ev.neg hC ?_
  obtain ⟨n, l, cs, hd, l0, c0⟩ := drawCostNet_ev (by omega) hw
  have hll : l.length ≤ 1048576 := by omega
  have hcl : cs.length ≤ 1048576 := by omega
  have hi := impl_CostNet_ev n l cs hll
  have hs := spec_CostNet_ev n l cs hll hcl
  have hln := costNet_length n l cs
  have hwk := wkNet_self (costNet n l cs).1 (costNet n l cs).2.1 (by omega)
  refine Ev.bind hd (Ev.bind hi (Ev.bind hs (Ev.neg (by simp) (Ev.bind hwk (Ev.pos rfl ?_)))))
  by_cases h : metricB n l cs = true
  rotate_left
  · have e : costNet n l cs = (0, [], false) := by unfold costNet; rw [if_neg h]
    rw [e] at hwk ⊢
    refine Ev.step (fun k => by simp only [laws_FnCostNet.j0]; rfl) ?_
    exact Ev.pos (by trivial) (Ev.pos (by trivial) (Ev.bind hwk (Ev.ret _)))
  · have e : costNet n l cs = (n, priced cs l, true) := by unfold costNet; rw [if_pos h]
    have hcl2 := metricB_length h
    rw [e]
    refine Ev.step (fun k => by simp only [laws_FnCostNet.j0]; rfl) (Ev.neg (by simp) ?_)
    have hlen : (priced cs l).length = l.length := priced_length _ _
    have key := downto (P := fun i => Ev (fun k => laws_FnCostNet.l0 k cs ((l.take i).map (·.f2)) (i : Int) n l n (priced cs l)) true) (n := l.length) ?_ ?_
    · simpa using key
    · rw [List.take_length]
      refine Ev.step (fun k => by simp only [laws_FnCostNet.l0]; rw [if_neg (by omega)]) ?_
      have hok := netOk_priced h
      have hm : metricB n (priced cs l) (l.map (·.f2)) = true := by
        unfold metricB costsB
        rw [hok]
        simp only [List.length_map, hlen, decide_true, Bool.true_and, List.all_eq_true, List.mem_map]
        rintro y ⟨x, hx, rfl⟩
        simp only [metricB, Bool.and_eq_true, netOkB, Bool.not_eq_true', List.any_eq_false] at h
        have hb := Bool.eq_false_iff.2 (h.1.2 x hx)
        simp only [badArc, Bool.or_eq_false_iff, Bool.not_eq_false'] at hb
        exact hb.1.1.2
      have hcn := impl_CostNet_ev n (priced cs l) (l.map (·.f2)) (by omega)
      have e2 : costNet n (priced cs l) (l.map (·.f2)) = (n, l, true) := by unfold costNet; rw [if_pos hm, priced_back]
      rw [e2] at hcn
      unfold impl_NetOk.f
      simp only [Option.bind_some]
      exact Ev.bind hcn (Ev.pos hok (Ev.pos rfl (Ev.bind (wkNet_self n l hll) (Ev.ret _))))
    · intro i hi' hnext
      have hx2 : ((l.take i).map (·.f2)).length < 17592186044416 := by simp; omega
      have hcd : cs.getD i 0 = rd cs (i : Int) := by
        rw [rd_at0 cs i (by omega), List.getD_eq_getElem?_getD, List.getElem?_eq_getElem (by omega)]
        rfl
      refine Ev.step (fun k => ?_) hnext
      simp only [laws_FnCostNet.l0]
      rw [if_pos (by omega), if_pos (by omega), if_pos hx2, if_pos (by omega), if_pos (by omega), priced_at cs l i hi', rd_T33_at l i hi', hcd, w64s (by omega), List.take_succ_eq_append_getElem hi', List.map_append]
      rw [if_neg (by simp)]
      rfl
end Go.Proofs.Ytblpdfgplifccaa.Pure
