/- CostOf, the program's and the specification's: one list. -/
import Derived.Test.YtjmpngfgfddpaaaMNetOk
import Derived.Test.YtjmpngfgfddpaaaPFSpecCostof
import Derived.Test.YtjmpngfgfddpaaaPFImplCostof
set_option linter.unusedVariables false
namespace Go.Proofs.Ytjmpngfgfddpaaa.M
open Go.RowKit Go.Proofs.Ytjmpngfgfddpaaa.P Go.Proofs.YtjmpngfgfddpaaaV.PrintWords Go.Proofs.YtjmpngfgfddpaaaV.PrintMore

theorem within_le' (n lo hi : Int) : impl_within.f n lo hi = some (decide (lo ≤ n) && decide (n ≤ hi)) := within_le n lo hi
/-- one arc's cost -/
def costOne (cost toll : Int) (x : S33) : Int := mn (wrap64 (Int.tdiv (wrap64 ((wrap64 (x.f2 * cost)) + (wrap64 (x.f3 * toll)))) 100)) 99
def okOf (cost toll nodes : Int) (l : List S33) : Bool := netOkB nodes l && ((decide (0 ≤ cost) && decide (cost ≤ 100)) && (decide (0 ≤ toll) && decide (toll ≤ 100)))
def costsOf (cost toll nodes : Int) (l : List S33) : List Int := if okOf cost toll nodes l = true then l.map (costOne cost toll) else []
theorem impl_CostOf_ev (nodes cost toll : Int) (l : List S33) (hl : l.length ≤ 1048576) : Ev (fun k => impl_CostOf.f k nodes l cost toll) (costsOf cost toll nodes l) := by
  have hj : ∀ b, Ev (fun k => impl_CostOf.j0 k cost toll b nodes l) (if b = true then [] else l.map (costOne cost toll)) := by
    intro b
    by_cases hb : b = true
    · subst hb
      exact Ev.step (G := fun _ => some []) (fun k => by simp only [impl_CostOf.j0, if_true]) (Ev.ret _)
    · rw [if_neg hb]
      refine Ev.step (G := fun k => impl_CostOf.l0 k cost toll [] l l.length 0) (fun k => by simp only [impl_CostOf.j0]; rw [if_neg hb, if_pos (by omega), if_pos (by omega)]) ?_
      have hP := downto (P := fun i => Ev (fun k => impl_CostOf.l0 k cost toll ((l.take i).map (costOne cost toll)) l l.length (i : Int)) (l.map (costOne cost toll))) (n := l.length) ?_ ?_
      · simpa using hP
      · refine Ev.step (G := fun _ => some (l.map (costOne cost toll))) (fun k => ?_) (Ev.ret _)
        simp only [impl_CostOf.l0]
        rw [if_neg (by omega), List.take_length]
      · intro i hi h
        refine Ev.step (fun k => ?_) h
        simp only [impl_CostOf.l0]
        rw [if_pos (by omega), if_pos (by omega), if_pos (by omega), if_pos (by simp; omega), w64s (by omega), rd_T33_at l i hi, List.take_succ_eq_append_getElem hi, List.map_append]
        rfl
  unfold costsOf okOf
  show Ev (fun k => impl_CostOf.f k nodes l cost toll) _
  unfold impl_CostOf.f impl_NetOk.f
  simp only [Option.bind_some, within_le']
  by_cases h0 : netOkB nodes l = true
  · simp only [h0, if_true, Bool.true_and]
    by_cases h1 : (decide (0 ≤ cost) && decide (cost ≤ 100)) = true
    · simp only [h1, if_true, Bool.true_and]
      refine (hj _).eq ?_
      by_cases h2 : (decide (0 ≤ toll) && decide (toll ≤ 100)) = true
      · rw [h2]; rfl
      · rw [Bool.eq_false_iff.2 h2]; rfl
    · have h1' := Bool.eq_false_iff.2 h1
      simp only [h1', Bool.false_and]
      exact (hj true)
  · have h0' := Bool.eq_false_iff.2 h0
    simp only [h0', Bool.false_and]
    exact (hj true)
theorem spec_CostOf_ev (nodes cost toll : Int) (l : List S33) (hl : l.length ≤ 1048576) : Ev (fun k => spec_CostOf.f k nodes l cost toll) (costsOf cost toll nodes l) := by
  have hj : ∀ b, Ev (fun k => spec_CostOf.j0 k cost toll [] b nodes l) (if b = true then [] else l.map (costOne cost toll)) := by
    intro b
    by_cases hb : b = true
    · subst hb
      exact Ev.step (G := fun _ => some []) (fun k => by simp only [spec_CostOf.j0, if_true]) (Ev.ret _)
    · rw [if_neg hb]
      refine Ev.step (G := fun k => spec_CostOf.l0 k cost toll [] 0 nodes l) (fun k => by simp only [spec_CostOf.j0]; rw [if_neg hb]) ?_
      have hP := downto (P := fun i => Ev (fun k => spec_CostOf.l0 k cost toll ((l.take i).map (costOne cost toll)) (i : Int) nodes l) (l.map (costOne cost toll))) (n := l.length) ?_ ?_
      · simpa using hP
      · refine Ev.step (G := fun _ => some (l.map (costOne cost toll))) (fun k => ?_) (Ev.ret _)
        simp only [spec_CostOf.l0]
        rw [if_neg (by omega), List.take_length]
      · intro i hi h
        refine Ev.step (fun k => ?_) h
        simp only [spec_CostOf.l0]
        rw [if_pos (by omega), if_pos (by omega), w64s (by omega), rd_T33_at l i hi, List.take_succ_eq_append_getElem hi, List.map_append]
        have hlen : (List.map (costOne cost toll) (List.take i l)).length < 17592186044416 := by simp; omega
        simp only [List.map_cons, List.map_nil, costOne, mn]
        by_cases h99 : wrap64 ((wrap64 (wrap64 (l[i].f2 * cost) + wrap64 (l[i].f3 * toll))).tdiv 100) > 99
        · rw [if_pos h99, if_pos hlen, if_pos (show (99 : Int) < _ from h99)]
        · rw [if_neg h99, if_pos hlen, if_neg (show ¬ (99 : Int) < _ from h99)]
  refine Ev.congr (G := fun k => (spec_l1Ok.f k nodes l).bind fun t105 => (if t105 = true then ((spec_l1In.f cost 0 100).bind fun t106 => (if t106 = true then ((spec_l1In.f toll 0 100).bind fun t107 => (spec_CostOf.j0 k cost toll [] (!t107) nodes l)) else (spec_CostOf.j0 k cost toll [] true nodes l))) else (spec_CostOf.j0 k cost toll [] true nodes l))) (fun k => by unfold spec_CostOf.f; rfl) ?_
  refine Ev.bind (l1Ok_netOkB nodes l (by omega)) ?_
  unfold costsOf okOf
  simp only [l1In_le, Option.bind_some]
  by_cases h0 : netOkB nodes l = true
  · simp only [h0, if_true, Bool.true_and]
    by_cases h1 : (decide (0 ≤ cost) && decide (cost ≤ 100)) = true
    · simp only [h1, if_true, Bool.true_and]
      refine (hj _).eq ?_
      by_cases h2 : (decide (0 ≤ toll) && decide (toll ≤ 100)) = true
      · rw [h2]; rfl
      · rw [Bool.eq_false_iff.2 h2]; rfl
    · have h1' := Bool.eq_false_iff.2 h1
      simp only [h1', Bool.false_and]
      exact (hj true)
  · have h0' := Bool.eq_false_iff.2 h0
    simp only [h0', Bool.false_and]
    exact (hj true)
theorem costsOf_length (cost toll nodes : Int) (l : List S33) : (costsOf cost toll nodes l).length ≤ l.length := by
  unfold costsOf
  split <;> simp
end Go.Proofs.Ytjmpngfgfddpaaa.M
