/- What the laws of a drawn net and an order draw. -/
import Derived.Test.YtdlaaccnaokdnaaMRankR
import Derived.Test.YtdlaaccnaokdnaaPFSpecDrawrankof
set_option linter.unusedVariables false
namespace Go.Proofs.Ytdlaaccnaokdnaa.M
open Go.RowKit Go.Proofs.Ytdlaaccnaokdnaa.P Go.Proofs.YtdlaaccnaokdnaaV.PrintWords Go.Proofs.YtdlaaccnaokdnaaV.PrintMore
theorem drawRankOf_ev {c : List Int} (hl : c.length ≤ 1048576) (hw : ∀ x ∈ c, (Lit.int .u8 x).wf = true) : ∃ (n : Int) (l : List S61) (o : List Int), Ev (fun k => spec_DrawRankOf.f k c) (n, l, o) ∧ l.length ≤ 13 ∧ o.length ≤ 10 := by
  obtain ⟨t, e0, hb⟩ := open_ev hl hw
  obtain ⟨n, l, p, e1, n0, n1, l0, la, p0, p1⟩ := anyNet_ev hb (p := 0) (by omega) (by omega)
  obtain ⟨o, q, e2, o0, q0, q1⟩ := order_ev hb (p := p) (by omega) (by omega) (n := n) ⟨n0, n1⟩
  obtain ⟨m, e3, _, _⟩ := pick_ev (b := t) (p := q) 14 hb (by omega) (by omega)
  by_cases hm : m = 0
  · refine ⟨n, l, o ++ [0], ?_, l0, by simp; omega⟩
    unfold spec_DrawRankOf.f
    rw [e0]
    simp only [Option.bind_some]
    refine Ev.bind e1 (Ev.bind e2 (Ev.bind e3 (Ev.pos hm (Ev.pos (by show o.length < _; omega) (Ev.ret _)))))
  · refine ⟨n, l, o, ?_, l0, by omega⟩
    unfold spec_DrawRankOf.f
    rw [e0]
    simp only [Option.bind_some]
    exact Ev.bind e1 (Ev.bind e2 (Ev.bind e3 (Ev.neg hm (Ev.ret _))))
end Go.Proofs.Ytdlaaccnaokdnaa.M
