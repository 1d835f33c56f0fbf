/- The specification's test of a net tells what the program's tells. -/
import Derived.Test.YtdlaaccnaokdnaaMRankG
import Derived.Test.YtdlaaccnaokdnaaGBase
set_option linter.unusedVariables false
namespace Go.Proofs.Ytdlaaccnaokdnaa.M
open Go.RowKit Go.Proofs.Ytdlaaccnaokdnaa.P Go.Proofs.YtdlaaccnaokdnaaV.PrintWords Go.Proofs.YtdlaaccnaokdnaaV.PrintMore

theorem l1In_le (n lo hi : Int) : spec_l1In.f n lo hi = some (decide (lo ≤ n) && decide (n ≤ hi)) := by
  unfold spec_l1In.f
  by_cases h : n ≥ lo
  · rw [if_pos h]
    simp [show lo ≤ n from h]
  · rw [if_neg h]
    simp [show ¬ lo ≤ n from h]
theorem l1In_inB (nodes v : Int) : spec_l1In.f v 0 (wrap64 (nodes - 1)) = some (inB nodes v) := l1In_le _ _ _
theorem l1In_cost (v : Int) : spec_l1In.f v 0 99 = some (costB v) := l1In_le _ _ _
theorem l1In_load (v : Int) : spec_l1In.f v 0 9 = some (loadB v) := l1In_le _ _ _
theorem l1Ok_netOkB (nodes : Int) (l : List S61) (hl : l.length ≤ 4611686018427387904) : Ev (fun k => spec_l1Ok.f k nodes l) (netOkB nodes l) := by
  show Ev (fun k => spec_l1Ok.l0 k 0 nodes l) _
  refine downto (P := fun i => Ev (fun k => spec_l1Ok.l0 k (i : Int) nodes l) ((decide (1 ≤ nodes) && decide (nodes ≤ 8)) && decide (l.length ≤ 16) && !((l.drop i).any (badArc nodes)))) (n := l.length) ?_ ?_
  · refine Ev.step (G := fun _ => some ((decide (1 ≤ nodes) && decide (nodes ≤ 8)) && decide (l.length ≤ 16) && !((l.drop l.length).any (badArc nodes)))) (fun k => ?_) (Ev.ret _)
    simp only [spec_l1Ok.l0]
    rw [if_neg (by omega), l1In_le, Option.bind_some, List.drop_length]
    by_cases h : (decide (1 ≤ nodes) && decide (nodes ≤ 8)) = true
    · rw [if_pos h, h]
      simp
      omega
    · rw [if_neg h, Bool.eq_false_iff.2 h]
      rfl
  · intro i hi h
    rw [List.drop_eq_getElem_cons hi, List.any_cons]
    by_cases hb : badArc nodes l[i] = true
    · rw [hb]
      refine Ev.step (G := fun _ => some false) (fun k => ?_) (by simpa using Ev.ret false)
      simp only [spec_l1Ok.l0]
      rw [if_pos (by omega), if_pos (by omega), rd_T61_at l i hi, l1In_inB, Option.bind_some]
      by_cases h0 : inB nodes l[i].f0 = true
      · rw [if_pos h0, l1In_inB, Option.bind_some]
        by_cases h1 : inB nodes l[i].f1 = true
        · rw [if_pos h1]
          by_cases h2 : l[i].f0 = l[i].f1
          · rw [if_pos h2]
          · rw [if_neg h2, l1In_cost, Option.bind_some]
            by_cases h3 : costB l[i].f2 = true
            · rw [if_pos h3, l1In_cost, Option.bind_some]
              by_cases h4 : costB l[i].f3 = true
              · rw [if_pos h4, l1In_load, Option.bind_some]
                by_cases h5 : loadB l[i].f4 = true
                · exfalso
                  simp [badArc, h0, h1, h2, h3, h4, h5] at hb
                · rw [if_neg h5]
              · rw [if_neg h4]
            · rw [if_neg h3]
        · rw [if_neg h1]
      · rw [if_neg h0]
    · rw [Bool.eq_false_iff.2 hb, Bool.false_or]
      refine Ev.step (fun k => ?_) h
      have hbi := Bool.eq_false_iff.2 hb
      simp only [badArc, Bool.or_eq_false_iff, Bool.not_eq_false', Bool.and_eq_true] at hbi
      obtain ⟨⟨⟨⟨⟨h0, h1⟩, h2⟩, h3⟩, h4⟩, h5⟩ := hbi
      simp only [spec_l1Ok.l0]
      rw [if_pos (by omega), if_pos (by omega), rd_T61_at l i hi, l1In_inB, Option.bind_some, if_pos h0, l1In_inB, Option.bind_some, if_pos h1, if_neg (by simpa using h2), l1In_cost, Option.bind_some, if_pos h3, l1In_cost, Option.bind_some, if_pos h4, l1In_load, Option.bind_some, if_pos h5, w64s (by omega)]
end Go.Proofs.Ytdlaaccnaokdnaa.M
