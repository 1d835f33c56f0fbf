/- What the laws of marks draw. -/
import Derived.Test.YtjmpngfgfddpaaaMDraw2
import Derived.Test.YtjmpngfgfddpaaaPFSpecDrawmarkbound
set_option linter.unusedVariables false
namespace Go.Proofs.Ytjmpngfgfddpaaa.M
open Go.RowKit Go.Proofs.Ytjmpngfgfddpaaa.P Go.Proofs.YtjmpngfgfddpaaaV.PrintWords Go.Proofs.YtjmpngfgfddpaaaV.PrintMore

theorem drawMarkBound_ev {c : List Int} (hl : c.length ≤ 1048576) (hw : ∀ x ∈ c, (Lit.int .u8 x).wf = true) : ∃ (n : Int) (l : List S33) (ms : List Int) (x y : Int), Ev (fun k => spec_DrawMarkBound.f k c) (n, l, ms, x, y) ∧ l.length ≤ 13 ∧ ms.length ≤ 4 := by
  obtain ⟨b, e0, hb⟩ := open_ev hl hw
  obtain ⟨n, l, p, e1, n0, n1, l0, la, p0, p1⟩ := anyNet_ev hb (p := 0) (by omega) (by omega)
  obtain ⟨ms, q, e2, m0, q0, q1⟩ := nodes_ev hb (p := p) (by omega) (by omega) ⟨n0, n1⟩ l 3 (by omega)
  obtain ⟨x, q2, e3, x0, x1, q3, q4⟩ := node_ev hb (p := q) (by omega) (by omega) n ⟨n0, n1⟩ l
  obtain ⟨y, q5, e4, _⟩ := node_ev hb (p := q2) (by omega) (by omega) n ⟨n0, n1⟩ l
  refine ⟨n, l, ms, x, y, ?_, l0, by omega⟩
  unfold spec_DrawMarkBound.f
  rw [e0]
  simp only [Option.bind_some]
  exact Ev.bind e1 (Ev.bind e2 (Ev.bind e3 (Ev.bind e4 (Ev.ret _))))
end Go.Proofs.Ytjmpngfgfddpaaa.M
