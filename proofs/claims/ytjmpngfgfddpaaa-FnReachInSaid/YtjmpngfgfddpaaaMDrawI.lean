/- What the law of drawn nets, nodes and bounds draws. -/
import Derived.Test.YtjmpngfgfddpaaaMDraw
import Derived.Test.YtjmpngfgfddpaaaPFSpecL30Node
import Derived.Test.YtjmpngfgfddpaaaPFSpecDrawreachin
set_option linter.unusedVariables false
namespace Go.Proofs.Ytjmpngfgfddpaaa.M
open Go.RowKit Go.Proofs.Ytjmpngfgfddpaaa.P Go.Proofs.YtjmpngfgfddpaaaV.PrintWords Go.Proofs.YtjmpngfgfddpaaaV.PrintMore

theorem nodeI_ev {b : List Int} (hb : Byt b) {p : Int} (h0 : 0 ≤ p) (h1 : p ≤ 800000) (n : Int) (hn : 0 ≤ n ∧ n ≤ 9) (l : List S33) : ∃ v p', Ev (fun k => spec_l30Node.f k b p n l) (v, p') ∧ -1 ≤ v ∧ v ≤ 9 ∧ p ≤ p' ∧ p' ≤ p + 2 := by
  obtain ⟨c, e1, _, b1⟩ := pick_ev (b := b) (p := p) 16 hb h0 (by omega)
  by_cases k0 : c = 0
  · obtain ⟨v, e2, b2⟩ := one_ev (b := b) (p := p + 1) [-1, n] hb (by omega) (by omega) (by simp)
    simp only [List.mem_cons, List.not_mem_nil, or_false] at b2
    refine ⟨v, p + 1 + 1, ?_, by omega, by omega, by omega, by omega⟩
    unfold spec_l30Node.f
    exact Ev.bind e1 (Ev.pos k0 (Ev.bind e2 (Ev.ret _)))
  · obtain ⟨v, e2, b2, b3⟩ := pick_ev (b := b) (p := p + 1) n hb (by omega) (by omega)
    have : 0 ≤ v ∧ v ≤ 9 := by
      by_cases hn1 : n < 1
      · have := b2 hn1; omega
      · have := b3 (by omega); omega
    refine ⟨v, p + 1 + 1, ?_, by omega, by omega, by omega, by omega⟩
    unfold spec_l30Node.f
    exact Ev.bind e1 (Ev.neg k0 (Ev.bind e2 (Ev.ret _)))
theorem drawReachIn_ev {c : List Int} (hl : c.length ≤ 1048576) (hw : ∀ x ∈ c, (Lit.int .u8 x).wf = true) : ∃ (n : Int) (l : List S33) (s b : Int), Ev (fun k => spec_DrawReachIn.f k c) (n, l, s, b) ∧ l.length ≤ 13 ∧ -1 ≤ b ∧ b ≤ 999 ∧ -1 ≤ s := by
  obtain ⟨t, e0, hb⟩ := open_ev hl hw
  obtain ⟨n, l, p, e1, n0, n1, l0, la, p0, p1⟩ := anyNet_ev hb (p := 0) (by omega) (by omega)
  obtain ⟨s, q, e2, s0, s1, q0, q1⟩ := nodeI_ev hb (p := p) (by omega) (by omega) n ⟨n0, n1⟩ l
  obtain ⟨b, e3, b2⟩ := one_ev (b := t) (p := q) [0, 3, 10, 50, -1, 999] hb (by omega) (by omega) (by simp)
  simp only [List.mem_cons, List.not_mem_nil, or_false] at b2
  refine ⟨n, l, s, b, ?_, l0, by omega, by omega, s0⟩
  unfold spec_DrawReachIn.f
  rw [e0]
  simp only [Option.bind_some]
  exact Ev.bind e1 (Ev.bind e2 (Ev.bind e3 (Ev.ret _)))
end Go.Proofs.Ytjmpngfgfddpaaa.M
