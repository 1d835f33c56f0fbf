/- What the law of drawn nets and two lists draws. -/
import Derived.Test.YtjmpngfgfddpaaaMDraw
import Derived.Test.YtjmpngfgfddpaaaPFSpecL30Nodes
import Derived.Test.YtjmpngfgfddpaaaPFSpecDrawmanyall
set_option linter.unusedVariables false
namespace Go.Proofs.Ytjmpngfgfddpaaa.M
open Go.RowKit Go.Proofs.Ytjmpngfgfddpaaa.P Go.Proofs.YtjmpngfgfddpaaaV.PrintWords Go.Proofs.YtjmpngfgfddpaaaV.PrintMore

theorem nodesA_l0 {b : List Int} (hb : Byt b) {n : Int} (hn : 0 ≤ n ∧ n ≤ 9) (l : List S33) : ∀ (m : Nat) (p : Int) (xs : List Int), m ≤ 10 → 0 ≤ p → p + m ≤ 800000 → xs.length + m ≤ 100 →
    ∃ (ys : List Int) (p' : Int), Ev (fun k => spec_l30Nodes.l0 k xs (m : Int) b p n l) (ys, p') ∧ ys.length ≤ xs.length + m + 1 ∧ p ≤ p' ∧ p' ≤ p + m + 2
  | 0, p, xs, hm, h0, h1, hx => by
    obtain ⟨c, e1, _, b1⟩ := pick_ev (b := b) (p := p) 14 hb h0 (by omega)
    by_cases k0 : c = 0
    · obtain ⟨v, e2, b2⟩ := one_ev (b := b) (p := p + 1) [-1, n] hb (by omega) (by omega) (by simp)
      have hx2 : xs.length < 17592186044416 := by omega
      refine ⟨xs ++ [v], p + 1 + 1, ?_, by simp, by omega, by omega⟩
      refine Ev.step (fun k => by simp only [spec_l30Nodes.l0]; rw [if_neg (by omega)]) ?_
      exact Ev.bind e1 (Ev.pos k0 (Ev.bind e2 (Ev.pos hx2 (Ev.ret _))))
    · refine ⟨xs, p + 1, Ev.step (fun k => by simp only [spec_l30Nodes.l0]; rw [if_neg (by omega)]) (Ev.bind e1 (Ev.neg k0 (Ev.ret _))), by omega, by omega, by omega⟩
  | m + 1, p, xs, hm, h0, h1, hx => by
    obtain ⟨c, e1, _⟩ := pick_ev (b := b) (p := p) n hb h0 (by omega)
    have hw : wrap64 (((m + 1 : Nat) : Int) - 1) = (m : Int) := by rw [w64 (by omega)]; omega
    obtain ⟨ys, p', f1, f2, f3, f4⟩ := nodesA_l0 hb hn l m (p + 1) (xs ++ [c]) (by omega) (by omega) (by omega) (by simp; omega)
    have hx2 : xs.length < 17592186044416 := by omega
    refine ⟨ys, p', ?_, by simp at f2; omega, by omega, by omega⟩
    refine Ev.step (fun k => by simp only [spec_l30Nodes.l0]; rw [if_pos (by omega), hw]) ?_
    exact Ev.bind e1 (Ev.pos hx2 f1)
theorem nodesA_ev {b : List Int} (hb : Byt b) {p : Int} (h0 : 0 ≤ p) (h1 : p ≤ 700000) {n : Int} (hn : 0 ≤ n ∧ n ≤ 9) (l : List S33) (most : Int) (hm : 0 ≤ most ∧ most ≤ 10) : ∃ (ys : List Int) (p' : Int), Ev (fun k => spec_l30Nodes.f k b p n l most) (ys, p') ∧ ys.length ≤ most.toNat + 1 ∧ p ≤ p' ∧ p' ≤ p + 20 := by
  have hw : wrap64 (most + 1) = most + 1 := w64 (by omega)
  obtain ⟨c, e1, _, b1⟩ := pick_ev (b := b) (p := p) (most + 1) hb h0 (by omega)
  have c1 := b1 (by omega)
  obtain ⟨m, rfl⟩ := Int.eq_ofNat_of_zero_le c1.1
  obtain ⟨ys, p', f1, f2, f3, f4⟩ := nodesA_l0 hb hn l m (p + 1) [] (by omega) (by omega) (by omega) (by simp; omega)
  refine ⟨ys, p', ?_, by simp at f2; omega, by omega, by omega⟩
  unfold spec_l30Nodes.f
  rw [hw]
  exact Ev.bind e1 f1
theorem drawManyAll_ev {c : List Int} (hl : c.length ≤ 1048576) (hw : ∀ x ∈ c, (Lit.int .u8 x).wf = true) : ∃ (n : Int) (l : List S33) (xs ys : List Int), Ev (fun k => spec_DrawManyAll.f k c) (n, l, xs, ys) ∧ l.length ≤ 13 ∧ xs.length ≤ 5 ∧ ys.length ≤ 5 := by
  obtain ⟨b, e0, hb⟩ := open_ev hl hw
  obtain ⟨n, l, p, e1, n0, n1, l0, la, p0, p1⟩ := anyNet_ev hb (p := 0) (by omega) (by omega)
  obtain ⟨xs, q2, e3, x0, q3, q4⟩ := nodesA_ev hb (p := p) (by omega) (by omega) ⟨n0, n1⟩ l 4 (by omega)
  obtain ⟨ys, q5, e4, y0, _⟩ := nodesA_ev hb (p := q2) (by omega) (by omega) ⟨n0, n1⟩ l 4 (by omega)
  refine ⟨n, l, xs, ys, ?_, l0, by omega, by omega⟩
  unfold spec_DrawManyAll.f
  rw [e0]
  simp only [Option.bind_some]
  exact Ev.bind e1 (Ev.bind e3 (Ev.bind e4 (Ev.ret _)))
end Go.Proofs.Ytjmpngfgfddpaaa.M
