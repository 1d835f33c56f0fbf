/- A net with other costs: the program's (priced, metricOk, CostNet) and the specification's (l9Net, l9Ok, CostNet). -/
import Derived.Test.YtblpdfgplifccaaMNetOk
import Derived.Test.YtblpdfgplifccaaPFImplCostnet
import Derived.Test.YtblpdfgplifccaaPFSpecCostnet
set_option linter.unusedVariables false
namespace Go.Proofs.Ytblpdfgplifccaa.M
open Go.RowKit Go.Proofs.Ytblpdfgplifccaa.P Go.Proofs.YtblpdfgplifccaaV.PrintWords Go.Proofs.YtblpdfgplifccaaV.PrintMore

/-- the arcs with the costs cs, up to place i -/
def pricedTo (cs : List Int) (i : Nat) (l : List S33) : List S33 := l.mapIdx fun j x => if j < i then ⟨x.f0, x.f1, cs.getD j 0, x.f3, x.f4⟩ else x
/-- the arcs with the costs cs -/
def priced (cs : List Int) (l : List S33) : List S33 := l.mapIdx fun j x => ⟨x.f0, x.f1, cs.getD j 0, x.f3, x.f4⟩
theorem pricedTo_length (cs : List Int) (i : Nat) (l : List S33) : (pricedTo cs i l).length = l.length := by simp [pricedTo]
theorem priced_length (cs : List Int) (l : List S33) : (priced cs l).length = l.length := by simp [priced]
theorem pricedTo_zero (cs : List Int) (l : List S33) : pricedTo cs 0 l = l := by
  apply List.ext_getElem (by simp [pricedTo])
  intro j h1 h2
  simp [pricedTo]
theorem pricedTo_end (cs : List Int) (l : List S33) : pricedTo cs l.length l = priced cs l := by
  apply List.ext_getElem (by simp [pricedTo, priced])
  intro j h1 h2
  have : j < l.length := by simpa [pricedTo] using h1
  simp [pricedTo, priced, this]
theorem pricedTo_succ (cs : List Int) (i : Nat) (l : List S33) (hi : i < l.length) (hc : i < cs.length) :
    (pricedTo cs i l).set i ⟨(rd_T33 (pricedTo cs i l) (i : Int)).f0, (rd_T33 (pricedTo cs i l) (i : Int)).f1, rd cs (i : Int), (rd_T33 (pricedTo cs i l) (i : Int)).f3, (rd_T33 (pricedTo cs i l) (i : Int)).f4⟩ = pricedTo cs (i + 1) l := by
  have hx : rd_T33 (pricedTo cs i l) (i : Int) = l[i] := by
    rw [rd_T33_at _ i (by rw [pricedTo_length]; exact hi)]
    simp [pricedTo]
  have hr : rd cs (i : Int) = cs.getD i 0 := by simp [rd]
  rw [hx, hr]
  apply List.ext_getElem (by simp [pricedTo])
  intro j h1 h2
  rw [List.getElem_set]
  by_cases hj : i = j
  · subst hj
    simp [pricedTo]
  · rw [if_neg hj]
    simp only [pricedTo, List.getElem_mapIdx]
    by_cases hlt : j < i
    · rw [if_pos hlt, if_pos (by omega)]
    · rw [if_neg hlt, if_neg (by omega)]
theorem impl_priced_ev (n : Int) (l : List S33) (cs : List Int) (hl : l.length ≤ 1048576) (hc : cs.length = l.length) : Ev (fun k => impl_Net_priced.f k n l cs) (n, priced cs l) := by
  refine Ev.congr (G := fun k => impl_Net_priced.l0 k cs (cs.length : Int) 0 n l) (fun k => by
    unfold impl_Net_priced.f slices_Clone_Arc.f impl_Arc_100.f
    rw [if_pos (by omega)]
    rfl) ?_
  have hP := downto (P := fun i => Ev (fun k => impl_Net_priced.l0 k cs (cs.length : Int) (i : Int) n (pricedTo cs i l)) (n, priced cs l)) (n := l.length) ?_ ?_
  · simpa [pricedTo_zero] using hP
  · refine Ev.step (G := fun _ => some (n, priced cs l)) (fun k => ?_) (Ev.ret _)
    simp only [impl_Net_priced.l0]
    rw [if_neg (by omega), pricedTo_end]
  · intro i hi h
    refine Ev.step (fun k => ?_) h
    simp only [impl_Net_priced.l0]
    rw [if_pos (by omega), if_pos (by omega), if_pos (by omega), if_pos (by rw [pricedTo_length]; omega), w64s (by omega), Int.toNat_natCast, pricedTo_succ cs i l hi (by omega)]
theorem spec_l9Net_ev (n : Int) (l : List S33) (cs : List Int) (hl : l.length ≤ 1048576) (hc : cs.length = l.length) : Ev (fun k => spec_l9Net.f k n l cs) (n, priced cs l) := by
  refine Ev.congr (G := fun k => spec_l9Net.l0 k cs 0 n l) (fun k => by
    unfold spec_l9Net.f spec_l1Copy.f
    simp only [Option.bind_some]
    rw [if_pos (by simp; omega)]
    rfl) ?_
  have hP := downto (P := fun i => Ev (fun k => spec_l9Net.l0 k cs (i : Int) n (pricedTo cs i l)) (n, priced cs l)) (n := l.length) ?_ ?_
  · simpa [pricedTo_zero] using hP
  · refine Ev.step (G := fun _ => some (n, priced cs l)) (fun k => ?_) (Ev.ret _)
    simp only [spec_l9Net.l0]
    rw [if_neg (by rw [pricedTo_length]; omega), pricedTo_end]
  · intro i hi h
    refine Ev.step (fun k => ?_) h
    simp only [spec_l9Net.l0]
    rw [if_pos (by rw [pricedTo_length]; omega), if_pos (by omega), if_pos (by omega), w64s (by omega), Int.toNat_natCast, pricedTo_succ cs i l hi (by omega)]
/-- costs for each arc -/
def costsB (l : List S33) (cs : List Int) : Bool := decide (cs.length = l.length) && cs.all costB
def metricB (nodes : Int) (l : List S33) (cs : List Int) : Bool := netOkB nodes l && costsB l cs
theorem any_not_all (cs : List Int) : (!(cs.any fun n => !costB n)) = cs.all costB := by rw [List.all_eq_not_any_not]
theorem impl_metricOk_eq (nodes : Int) (l : List S33) (cs : List Int) : impl_metricOk.f nodes l cs = some (metricB nodes l cs) := by
  unfold impl_metricOk.f impl_NetOk.f contains_metricOk1.f metricB costsB
  simp only [Option.bind_some]
  by_cases h0 : netOkB nodes l = true
  · rw [if_pos h0, h0, Bool.true_and]
    by_cases h1 : cs.length = l.length
    · rw [if_pos (by omega), any_not_all]
      simp [h1]
    · rw [if_neg (by omega)]
      simp [h1]
  · rw [if_neg h0, Bool.eq_false_iff.2 h0, Bool.false_and]
theorem spec_l9Ok_ev (nodes : Int) (l : List S33) (cs : List Int) (hc : cs.length ≤ 1048576) : Ev (fun k => spec_l9Ok.f k nodes l cs) (costsB l cs) := by
  show Ev (fun k => spec_l9Ok.l0 k cs 0 nodes l) _
  refine downto (P := fun i => Ev (fun k => spec_l9Ok.l0 k cs (i : Int) nodes l) (decide (cs.length = l.length) && (cs.drop i).all costB)) (n := cs.length) ?_ ?_
  · refine Ev.step (G := fun _ => some (decide (cs.length = l.length) && (cs.drop cs.length).all costB)) (fun k => ?_) (Ev.ret _)
    simp only [spec_l9Ok.l0]
    rw [if_neg (by omega), List.drop_length]
    by_cases h : cs.length = l.length
    · simp [h]
    · simp [h]
      omega
  · intro i hi h
    rw [List.drop_eq_getElem_cons hi, List.all_cons]
    by_cases hb : costB cs[i] = true
    · rw [hb, Bool.true_and]
      refine Ev.step (fun k => ?_) h
      simp only [spec_l9Ok.l0]
      rw [if_pos (by omega), if_pos (by omega), rd_at0 _ i hi, l1In_cost, Option.bind_some, if_pos hb, w64s (by omega)]
    · refine Ev.step (G := fun _ => some false) (fun k => ?_) (by simpa [hb] using Ev.ret false)
      simp only [spec_l9Ok.l0]
      rw [if_pos (by omega), if_pos (by omega), rd_at0 _ i hi, l1In_cost, Option.bind_some, if_neg hb]
/-- what CostNet tells -/
def costNet (nodes : Int) (l : List S33) (cs : List Int) : Int × List S33 × Bool := if metricB nodes l cs = true then (nodes, priced cs l, true) else (0, [], false)
theorem metricB_length {nodes : Int} {l : List S33} {cs : List Int} (h : metricB nodes l cs = true) : cs.length = l.length := by
  simp only [metricB, costsB, Bool.and_eq_true, decide_eq_true_eq] at h
  exact h.2.1
theorem impl_CostNet_ev (n : Int) (l : List S33) (cs : List Int) (hl : l.length ≤ 1048576) : Ev (fun k => impl_CostNet.f k n l cs) (costNet n l cs) := by
  unfold impl_CostNet.f costNet
  simp only [impl_metricOk_eq, Option.bind_some]
  by_cases h : metricB n l cs = true
  · rw [if_pos h]
    exact Ev.pos h (Ev.bind (impl_priced_ev n l cs hl (metricB_length h)) (Ev.ret _))
  · rw [if_neg h]
    exact Ev.neg h (Ev.ret _)
theorem spec_CostNet_ev (n : Int) (l : List S33) (cs : List Int) (hl : l.length ≤ 1048576) (hc : cs.length ≤ 1048576) : Ev (fun k => spec_CostNet.f k n l cs) (costNet n l cs) := by
  unfold spec_CostNet.f costNet
  refine Ev.bind (l1Ok_netOkB n l (by omega)) ?_
  by_cases h0 : netOkB n l = true
  · refine Ev.pos h0 (Ev.bind (spec_l9Ok_ev n l cs hc) ?_)
    by_cases h1 : costsB l cs = true
    · have hm : metricB n l cs = true := by simp [metricB, h0, h1]
      rw [if_pos hm]
      exact Ev.pos h1 (Ev.bind (spec_l9Net_ev n l cs hl (metricB_length hm)) (Ev.ret _))
    · rw [if_neg (by simp [metricB, h1])]
      exact Ev.neg h1 (Ev.ret _)
  · rw [if_neg (by simp [metricB, h0])]
    exact Ev.neg h0 (Ev.ret _)
theorem costNet_length (n : Int) (l : List S33) (cs : List Int) : (costNet n l cs).2.1.length ≤ l.length := by
  unfold costNet
  split
  · simp [priced_length]
  · simp
end Go.Proofs.Ytblpdfgplifccaa.M
