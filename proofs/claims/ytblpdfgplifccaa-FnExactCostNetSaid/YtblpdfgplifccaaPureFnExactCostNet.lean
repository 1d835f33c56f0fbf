import Derived.Test.YtblpdfgplifccaaPFLawsFnexactcostnet
import Derived.Test.YtblpdfgplifccaaMPriced
import Derived.Test.YtblpdfgplifccaaMHelp2
namespace Go.Proofs.Ytblpdfgplifccaa.Pure
open Go.RowKit Go.Proofs.Ytblpdfgplifccaa.P Go.Proofs.Ytblpdfgplifccaa.M

theorem FnExactCostNet : laws_FnExactCostNet.Pure := by
  intro n l cs _ hl _ _ _
  by_cases hC : cs.length ≤ 1048576
  rotate_left
  · refine ⟨0, ?_⟩
    unfold laws_FnExactCostNet.f
    rw [if_pos (by omega)]
  by_cases hL : l.length ≤ 1048576
  rotate_left
  · refine ⟨0, ?_⟩
    unfold laws_FnExactCostNet.f
    rw [if_neg (by omega), szNet_val n l hl, if_neg hL]
    rfl
  apply Ev.get
  unfold laws_FnExactCostNet.f
  rw [szNet_val n l hl, if_pos hL]
  simp only [Option.bind_some]
  refine Ev.neg (by omega) (Ev.neg (by omega) ?_)
  have hN := toNet_map n l hL
  have hT := toIntS_self cs hC
  have hm : (l.map toA).length = l.length := List.length_map ..
  generalize hA : l.map toA = A at hN hm
  have hi := impl_CostNet_ev n A cs (by omega)
  have hs := spec_CostNet_ev n A cs (by omega) hC
  have hc := costNet_length n A cs
  generalize costNet n A cs = R at hi hs hc
  have hR := eqNet_self R.1 R.2.1 (by omega)
  have hE := eqNet_self n A (by omega)
  have hI := eqIntS_self cs (by omega)
  refine Ev.bind hN (Ev.bind hT (Ev.bind hs (Ev.bind hN (Ev.bind hT (Ev.bind hi (Ev.bind hR (Ev.pos rfl ?_)))))))
  refine Ev.step (fun k => by simp only [laws_FnExactCostNet.j0]; rfl) (Ev.neg (by simp) ?_)
  have hmk := markNet_marks n A 1 (by omega) (by omega)
  have hmi := markIntS_marks cs (1 + 5 * (A.length : Int)) (by omega) (by omega)
  refine Ev.bind hN (Ev.bind hE (Ev.pos rfl (Ev.bind hT (Ev.bind hI (Ev.pos rfl (Ev.bind hmk (Ev.bind hmi (Ev.neg (by simp only; omega) (Ev.bind hR (Ev.pos rfl ?_))))))))))
  refine Ev.step (fun k => by simp only [laws_FnExactCostNet.j1]; rfl) (Ev.neg (by simp) ?_)
  have hmr := markNet_marks R.1 R.2.1 1 (by omega) (by omega)
  have hh := heldNet_marks R.1 1 R.2.1.length (by omega) (by omega)
  refine Ev.bind hmr (Ev.bind hh (Ev.neg (by omega) (Ev.pos rfl (Ev.bind hN (Ev.bind hT (Ev.bind hi (Ev.bind hR (Ev.pos rfl ?_))))))))
  refine Ev.step (fun k => by simp only [laws_FnExactCostNet.j2]; rfl) (Ev.neg (by simp) ?_)
  exact Ev.bind hh (Ev.neg (by omega) (Ev.pos rfl (Ev.ret _)))
end Go.Proofs.Ytblpdfgplifccaa.Pure
