/- What is drawn beside a net: nodes, lists of nodes; and what the laws of drawn nets share. -/
import Derived.Test.YtjmpngfgfddpaaaMDraw
import Derived.Test.YtjmpngfgfddpaaaMNearAll
import Derived.Test.YtjmpngfgfddpaaaPFSpecL30Node
import Derived.Test.YtjmpngfgfddpaaaPFSpecL30Nodes
set_option linter.unusedVariables false
namespace Go.Proofs.Ytjmpngfgfddpaaa.M
open Go.RowKit Go.Proofs.Ytjmpngfgfddpaaa.P Go.Proofs.YtjmpngfgfddpaaaV.PrintWords Go.Proofs.YtjmpngfgfddpaaaV.PrintMore

theorem node_ev {b : List Int} (hb : Byt b) {p : Int} (h0 : 0 ≤ p) (h1 : p ≤ 800000) (n : Int) (hn : 0 ≤ n ∧ n ≤ 9) (l : List S33) : ∃ v p', Ev (fun k => spec_l30Node.f k b p n l) (v, p') ∧ -1 ≤ v ∧ v ≤ 9 ∧ p ≤ p' ∧ p' ≤ p + 2 := by
  obtain ⟨c, e1, _, b1⟩ := pick_ev (b := b) (p := p) 16 hb h0 (by omega)
  by_cases k0 : c = 0
  · obtain ⟨v, e2, b2⟩ := one_ev (b := b) (p := p + 1) [-1, n] hb (by omega) (by omega) (by simp)
    simp only [List.mem_cons, List.not_mem_nil, or_false] at b2
    refine ⟨v, p + 1 + 1, ?_, by omega, by omega, by omega, by omega⟩
    unfold spec_l30Node.f
    exact Ev.bind e1 (Ev.pos k0 (Ev.bind e2 (Ev.ret _)))
  · obtain ⟨v, e2, b2, b3⟩ := pick_ev (b := b) (p := p + 1) n hb (by omega) (by omega)
    have : 0 ≤ v ∧ v ≤ 9 := by
      by_cases hn1 : n < 1
      · have := b2 hn1; omega
      · have := b3 (by omega); omega
    refine ⟨v, p + 1 + 1, ?_, by omega, by omega, by omega, by omega⟩
    unfold spec_l30Node.f
    exact Ev.bind e1 (Ev.neg k0 (Ev.bind e2 (Ev.ret _)))
theorem nodes_l0 {b : List Int} (hb : Byt b) {n : Int} (hn : 0 ≤ n ∧ n ≤ 9) (l : List S33) : ∀ (m : Nat) (p : Int) (xs : List Int), m ≤ 10 → 0 ≤ p → p + m ≤ 800000 → xs.length + m ≤ 100 →
    ∃ (ys : List Int) (p' : Int), Ev (fun k => spec_l30Nodes.l0 k xs (m : Int) b p n l) (ys, p') ∧ ys.length ≤ xs.length + m + 1 ∧ p ≤ p' ∧ p' ≤ p + m + 2
  | 0, p, xs, hm, h0, h1, hx => by
    obtain ⟨c, e1, _, b1⟩ := pick_ev (b := b) (p := p) 14 hb h0 (by omega)
    by_cases k0 : c = 0
    · obtain ⟨v, e2, b2⟩ := one_ev (b := b) (p := p + 1) [-1, n] hb (by omega) (by omega) (by simp)
      have hx2 : xs.length < 17592186044416 := by omega
      refine ⟨xs ++ [v], p + 1 + 1, ?_, by simp, by omega, by omega⟩
      refine Ev.step (fun k => by simp only [spec_l30Nodes.l0]; rw [if_neg (by omega)]) ?_
      exact Ev.bind e1 (Ev.pos k0 (Ev.bind e2 (Ev.pos hx2 (Ev.ret _))))
    · refine ⟨xs, p + 1, Ev.step (fun k => by simp only [spec_l30Nodes.l0]; rw [if_neg (by omega)]) (Ev.bind e1 (Ev.neg k0 (Ev.ret _))), by omega, by omega, by omega⟩
  | m + 1, p, xs, hm, h0, h1, hx => by
    obtain ⟨c, e1, _⟩ := pick_ev (b := b) (p := p) n hb h0 (by omega)
    have hw : wrap64 (((m + 1 : Nat) : Int) - 1) = (m : Int) := by rw [w64 (by omega)]; omega
    obtain ⟨ys, p', f1, f2, f3, f4⟩ := nodes_l0 hb hn l m (p + 1) (xs ++ [c]) (by omega) (by omega) (by omega) (by simp; omega)
    have hx2 : xs.length < 17592186044416 := by omega
    refine ⟨ys, p', ?_, by simp at f2; omega, by omega, by omega⟩
    refine Ev.step (fun k => by simp only [spec_l30Nodes.l0]; rw [if_pos (by omega), hw]) ?_
    exact Ev.bind e1 (Ev.pos hx2 f1)
theorem nodes_ev {b : List Int} (hb : Byt b) {p : Int} (h0 : 0 ≤ p) (h1 : p ≤ 700000) {n : Int} (hn : 0 ≤ n ∧ n ≤ 9) (l : List S33) (most : Int) (hm : 0 ≤ most ∧ most ≤ 10) : ∃ (ys : List Int) (p' : Int), Ev (fun k => spec_l30Nodes.f k b p n l most) (ys, p') ∧ ys.length ≤ most.toNat + 1 ∧ p ≤ p' ∧ p' ≤ p + 20 := by
  have hw : wrap64 (most + 1) = most + 1 := w64 (by omega)
  obtain ⟨c, e1, _, b1⟩ := pick_ev (b := b) (p := p) (most + 1) hb h0 (by omega)
  have c1 := b1 (by omega)
  obtain ⟨m, rfl⟩ := Int.eq_ofNat_of_zero_le c1.1
  obtain ⟨ys, p', f1, f2, f3, f4⟩ := nodes_l0 hb hn l m (p + 1) [] (by omega) (by omega) (by omega) (by simp; omega)
  refine ⟨ys, p', ?_, by simp at f2; omega, by omega, by omega⟩
  unfold spec_l30Nodes.f
  rw [hw]
  exact Ev.bind e1 f1
end Go.Proofs.Ytjmpngfgfddpaaa.M
