import Derived.Test.YtjmpngfgfddpaaaPFLawsFnexactreachfar
import Derived.Test.YtjmpngfgfddpaaaMReachFar
import Derived.Test.YtjmpngfgfddpaaaMHelp
namespace Go.Proofs.Ytjmpngfgfddpaaa.Pure
open Go.RowKit Go.Proofs.Ytjmpngfgfddpaaa.P Go.Proofs.Ytjmpngfgfddpaaa.M

theorem FnExactReachFar : laws_FnExactReachFar.Pure := by
  intro n l _ hl _
  by_cases hL : l.length ≤ 1048576
  rotate_left
  · refine ⟨0, ?_⟩
    unfold laws_FnExactReachFar.f
    rw [szNet_val n l hl, if_neg hL]
    rfl
  apply Ev.get
  unfold laws_FnExactReachFar.f
  rw [szNet_val n l hl, if_pos hL]
  simp only [Option.bind_some]
  refine Ev.neg (by omega) ?_
  have hN := toNet_map n l hL
  have hm : (l.map toA).length = l.length := List.length_map ..
  generalize hA : l.map toA = A at hN hm
  obtain ⟨r, hi, hs⟩ := reachFar_ev n A (by omega)
  exact Ev.bind hN (Ev.bind hs (Ev.bind hN (Ev.bind hi (Ev.pos rfl (Ev.bind hN (Ev.bind (eqNet_self n A (by omega)) (Ev.pos rfl (Ev.ret _))))))))
end Go.Proofs.Ytjmpngfgfddpaaa.Pure
