import Derived.Test.YtblpdfgplifccaaPFLawsFnexactpartnear
import Derived.Test.YtblpdfgplifccaaMPartNear
import Derived.Test.YtblpdfgplifccaaMHelp
namespace Go.Proofs.Ytblpdfgplifccaa.Pure
open Go.RowKit Go.Proofs.Ytblpdfgplifccaa.P Go.Proofs.Ytblpdfgplifccaa.M

theorem FnExactPartNear : laws_FnExactPartNear.Pure := by
  intro n l cs f t _ hl _ _ _ _ _
  by_cases hC : cs.length ≤ 1048576
  rotate_left
  · refine ⟨0, ?_⟩
    unfold laws_FnExactPartNear.f
    rw [if_pos (by omega)]
  by_cases hL : l.length ≤ 1048576
  rotate_left
  · refine ⟨0, ?_⟩
    unfold laws_FnExactPartNear.f
    rw [if_neg (by omega), szNet_val n l hl, if_neg hL]
    rfl
  apply Ev.get
  unfold laws_FnExactPartNear.f
  rw [szNet_val n l hl, if_pos hL]
  simp only [Option.bind_some]
  refine Ev.neg (by omega) (Ev.neg (by omega) ?_)
  have hN := toNet_map n l hL
  have hT := toIntS_self cs hC
  have hm : (l.map toA).length = l.length := List.length_map ..
  generalize hA : l.map toA = A at hN hm
  obtain ⟨R, hi, hs⟩ := partNear_ev n f t A cs (by omega) hC
  have hE := eqNet_self n A (by omega)
  have hI := eqIntS_self cs (by omega)
  exact Ev.bind hN (Ev.bind hT (Ev.bind hs (Ev.bind hN (Ev.bind hT (Ev.bind hi (Ev.pos rfl (Ev.bind hN (Ev.bind hE (Ev.pos rfl (Ev.bind hT (Ev.bind hI (Ev.pos rfl (Ev.ret _)))))))))))))
end Go.Proofs.Ytblpdfgplifccaa.Pure
