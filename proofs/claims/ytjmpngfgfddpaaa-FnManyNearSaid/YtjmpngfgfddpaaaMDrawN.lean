/- What the laws of drawn nets, nodes and lists draw. -/
import Derived.Test.YtjmpngfgfddpaaaMDraw2
import Derived.Test.YtjmpngfgfddpaaaPFSpecDrawmanynear
set_option linter.unusedVariables false
namespace Go.Proofs.Ytjmpngfgfddpaaa.M
open Go.RowKit Go.Proofs.Ytjmpngfgfddpaaa.P Go.Proofs.YtjmpngfgfddpaaaV.PrintWords Go.Proofs.YtjmpngfgfddpaaaV.PrintMore

theorem drawManyNear_ev {c : List Int} (hl : c.length ≤ 1048576) (hw : ∀ x ∈ c, (Lit.int .u8 x).wf = true) : ∃ (n : Int) (l : List S33) (s : Int) (xs : List Int), Ev (fun k => spec_DrawManyNear.f k c) (n, l, s, xs) ∧ l.length ≤ 13 ∧ xs.length ≤ 5 := by
  obtain ⟨b, e0, hb⟩ := open_ev hl hw
  obtain ⟨n, l, p, e1, n0, n1, l0, la, p0, p1⟩ := anyNet_ev hb (p := 0) (by omega) (by omega)
  obtain ⟨s, q, e2, s0, s1, q0, q1⟩ := node_ev hb (p := p) (by omega) (by omega) n ⟨n0, n1⟩ l
  obtain ⟨xs, q2, e3, x0, _⟩ := nodes_ev hb (p := q) (by omega) (by omega) ⟨n0, n1⟩ l 4 (by omega)
  refine ⟨n, l, s, xs, ?_, l0, by omega⟩
  unfold spec_DrawManyNear.f
  rw [e0]
  simp only [Option.bind_some]
  exact Ev.bind e1 (Ev.bind e2 (Ev.bind e3 (Ev.ret _)))
end Go.Proofs.Ytjmpngfgfddpaaa.M
