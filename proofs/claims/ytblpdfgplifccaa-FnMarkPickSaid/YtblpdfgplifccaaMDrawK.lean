/- What the law of drawn nets and how many draws. -/
import Derived.Test.YtblpdfgplifccaaMDraw
import Derived.Test.YtblpdfgplifccaaPFSpecDrawmarkpick
set_option linter.unusedVariables false
namespace Go.Proofs.Ytblpdfgplifccaa.M
open Go.RowKit Go.Proofs.Ytblpdfgplifccaa.P Go.Proofs.YtblpdfgplifccaaV.PrintWords Go.Proofs.YtblpdfgplifccaaV.PrintMore

theorem drawMarkPick_ev {c : List Int} (hl : c.length ≤ 1048576) (hw : ∀ x ∈ c, (Lit.int .u8 x).wf = true) : ∃ (n : Int) (l : List S33) (m : Int), Ev (fun k => spec_DrawMarkPick.f k c) (n, l, m) ∧ l.length ≤ 13 ∧ 0 ≤ m := by
  obtain ⟨t, e0, hb⟩ := open_ev hl hw
  obtain ⟨n, l, p, e1, n0, n1, l0, la, p0, p1⟩ := anyNet_ev hb (p := 0) (by omega) (by omega)
  obtain ⟨m, e2, _, m0⟩ := pick_ev (b := t) (p := p) (n + 2) hb (by omega) (by omega)
  refine ⟨n, l, m, ?_, l0, (m0 (by omega)).1⟩
  unfold spec_DrawMarkPick.f
  rw [e0]
  simp only [Option.bind_some]
  have hw2 : wrap64 (n + 2) = n + 2 := w64 (by omega)
  exact Ev.bind e1 (Ev.bind (by rw [hw2]; exact e2) (Ev.ret _))
end Go.Proofs.Ytblpdfgplifccaa.M
