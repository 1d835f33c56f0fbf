/- A drawn net and its parts. -/
import Derived.Test.YtblpdfgplifccaaMDraw
import Derived.Test.YtblpdfgplifccaaPFSpecL30Part
import Derived.Test.YtblpdfgplifccaaPFSpecDrawpartedges
set_option linter.unusedVariables false
namespace Go.Proofs.Ytblpdfgplifccaa.M
open Go.RowKit Go.Proofs.Ytblpdfgplifccaa.P Go.Proofs.YtblpdfgplifccaaV.PrintWords Go.Proofs.YtblpdfgplifccaaV.PrintMore
theorem part_l0 {b : List Int} (hb : Byt b) {n : Int} (hn : 0 ≤ n ∧ n ≤ 9) (l : List S33) (m : Int) : ∀ (u i : Nat) (p : Int) (xs : List Int), (i : Int) + u = n → 0 ≤ p → p + u ≤ 800000 → xs.length = i →
    ∃ (ys : List Int) (p' : Int), Ev (fun k => spec_l30Part.l0 k xs m (i : Int) b p n l) (ys, p') ∧ ys.length ≤ 10
  | 0, i, p, xs, hi, h0, h1, hx => by
    obtain ⟨c, e1, _⟩ := pick_ev (b := b) (p := p) 14 hb h0 (by omega)
    have hx2 : xs.length < 17592186044416 := by omega
    by_cases k0 : c = 0
    · refine ⟨xs ++ [0], p + 1, ?_, by simp; omega⟩
      refine Ev.step (fun k => by simp only [spec_l30Part.l0]; rw [if_neg (by omega)]) ?_
      exact Ev.bind e1 (Ev.pos k0 (Ev.pos hx2 (Ev.ret _)))
    · refine ⟨xs, p + 1, ?_, by omega⟩
      refine Ev.step (fun k => by simp only [spec_l30Part.l0]; rw [if_neg (by omega)]) ?_
      exact Ev.bind e1 (Ev.neg k0 (Ev.ret _))
  | u + 1, i, p, xs, hi, h0, h1, hx => by
    obtain ⟨c, e1, _⟩ := pick_ev (b := b) (p := p) m hb h0 (by omega)
    have hx2 : xs.length < 17592186044416 := by omega
    obtain ⟨ys, p', f1, f2⟩ := part_l0 hb hn l m u (i + 1) (p + 1) (xs ++ [c]) (by omega) (by omega) (by omega) (by simp; omega)
    refine ⟨ys, p', ?_, f2⟩
    refine Ev.step (fun k => by simp only [spec_l30Part.l0]; rw [if_pos (by omega), w64s (by omega)]) ?_
    exact Ev.bind e1 (Ev.pos hx2 f1)
theorem drawPartEdges_ev {c : List Int} (hl : c.length ≤ 1048576) (hw : ∀ x ∈ c, (Lit.int .u8 x).wf = true) : ∃ (n : Int) (l : List S33) (ps : List Int), Ev (fun k => spec_DrawPartEdges.f k c) (n, l, ps) ∧ l.length ≤ 13 ∧ ps.length ≤ 10 := by
  obtain ⟨b, e0, hb⟩ := open_ev hl hw
  obtain ⟨n, l, p, e1, n0, n1, l0, la, p0, p1⟩ := anyNet_ev hb (p := 0) (by omega) (by omega)
  obtain ⟨m, e2, _⟩ := pick_ev (b := b) (p := p) 4 hb (by omega) (by omega)
  obtain ⟨ys, p', e3, y0⟩ := part_l0 hb ⟨n0, n1⟩ l (wrap64 (1 + m)) n.toNat 0 (p + 1) [] (by omega) (by omega) (by omega) rfl
  refine ⟨n, l, ys, ?_, l0, y0⟩
  unfold spec_DrawPartEdges.f
  rw [e0]
  simp only [Option.bind_some]
  exact Ev.bind e1 (Ev.bind (Ev.bind e2 e3) (Ev.ret _))
end Go.Proofs.Ytblpdfgplifccaa.M
