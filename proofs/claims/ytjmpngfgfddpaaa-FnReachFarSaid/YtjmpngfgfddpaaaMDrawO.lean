/- A drawn net alone; and what is told of a net's distances to the laws. -/
import Derived.Test.YtjmpngfgfddpaaaMDraw
import Derived.Test.YtjmpngfgfddpaaaMNearAll
import Derived.Test.YtjmpngfgfddpaaaPFSpecDrawreachfar
set_option linter.unusedVariables false
namespace Go.Proofs.Ytjmpngfgfddpaaa.M
open Go.RowKit Go.Proofs.Ytjmpngfgfddpaaa.P Go.Proofs.YtjmpngfgfddpaaaV.PrintWords Go.Proofs.YtjmpngfgfddpaaaV.PrintMore

theorem drawReachFar_ev {c : List Int} (hl : c.length ≤ 1048576) (hw : ∀ x ∈ c, (Lit.int .u8 x).wf = true) : ∃ (n : Int) (l : List S33), Ev (fun k => spec_DrawReachFar.f k c) (n, l) ∧ l.length ≤ 13 := by
  obtain ⟨b, e0, hb⟩ := open_ev hl hw
  obtain ⟨n, l, p, e1, n0, n1, l0, la, p0, p1⟩ := anyNet_ev hb (p := 0) (by omega) (by omega)
  refine ⟨n, l, ?_, l0⟩
  unfold spec_DrawReachFar.f
  rw [e0]
  simp only [Option.bind_some]
  exact Ev.bind e1 (Ev.ret _)
end Go.Proofs.Ytjmpngfgfddpaaa.M
