import Derived.Test.YtjmpngfgfddpaaaPFLawsFnexactcostof
import Derived.Test.YtjmpngfgfddpaaaMCostOf
import Derived.Test.YtjmpngfgfddpaaaMHelp
namespace Go.Proofs.Ytjmpngfgfddpaaa.Pure
open Go.RowKit Go.Proofs.Ytjmpngfgfddpaaa.P Go.Proofs.Ytjmpngfgfddpaaa.M

theorem FnExactCostOf : laws_FnExactCostOf.Pure := by
  intro n l a b _ hl _ _ _
  by_cases hL : l.length ≤ 1048576
  rotate_left
  · refine ⟨0, ?_⟩
    unfold laws_FnExactCostOf.f
    rw [szNet_val n l hl, if_neg hL]
    rfl
  apply Ev.get
  unfold laws_FnExactCostOf.f
  rw [szNet_val n l hl, if_pos hL]
  simp only [Option.bind_some]
  refine Ev.neg (by omega) ?_
  have hN := toNet_map n l hL
  have hm : (l.map toA).length = l.length := List.length_map ..
  have hi := impl_CostOf_ev n a b (l.map toA) (by omega)
  have hs := spec_CostOf_ev n a b (l.map toA) (by omega)
  have hc := costsOf_length a b n (l.map toA)
  generalize costsOf a b n (l.map toA) = R at hi hs hc
  have hR := eqIntS_self R (by omega)
  refine Ev.bind hN (Ev.bind hs (Ev.bind hN (Ev.bind hi (Ev.bind hR (Ev.pos rfl (Ev.bind hN (Ev.bind (eqNet_self n (l.map toA) (by omega)) (Ev.pos rfl ?_))))))))
  obtain ⟨l', hmk⟩ := markNet_ex n (l.map toA) 1 (by omega) (by omega)
  refine Ev.bind hmk (Ev.neg (by simp only; omega) (Ev.bind hR ?_))
  refine Ev.step (fun k => by simp only [laws_FnExactCostOf.j0]; rfl) ?_
  refine Ev.neg (by simp) ?_
  have hmi := markIntS_marks R 1 (by omega) (by omega)
  have hh := heldIntS_marks 1 R.length (by omega) (by omega)
  exact Ev.bind hmi (Ev.bind hh (Ev.neg (by omega) (Ev.pos rfl (Ev.bind hN (Ev.bind hi (Ev.bind hR (Ev.pos rfl (Ev.bind hh (Ev.neg (by omega) (Ev.pos rfl (Ev.ret _)))))))))))
end Go.Proofs.Ytjmpngfgfddpaaa.Pure
