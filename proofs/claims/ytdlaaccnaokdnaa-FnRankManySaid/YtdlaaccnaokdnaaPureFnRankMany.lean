/- FnRankMany is true of every code. -/
import Derived.Test.YtdlaaccnaokdnaaMRankMD
import Derived.Test.YtdlaaccnaokdnaaMRankDk
set_option linter.unusedVariables false
namespace Go.Proofs.Ytdlaaccnaokdnaa.Pure
open Go.RowKit Go.Proofs.Ytdlaaccnaokdnaa.P Go.Proofs.Ytdlaaccnaokdnaa.M
open Go.Proofs.YtdlaaccnaokdnaaV.PrintWords (rd)
theorem FnRankMany : laws_FnRankMany.Pure := by
  intro c _ hl hw
  by_cases hC : (c.length : Int) > 1048576
  · exact ⟨0, by unfold laws_FnRankMany.f; rw [if_pos hC]⟩
  apply Ev.get
  unfold laws_FnRankMany.f
  refine Ev.neg hC ?_
  obtain ⟨t, e0, hb⟩ := open_ev (by omega) hw
  obtain ⟨n, l, o, C, V, p, e1, hok, _, hol, fC, fV, _, _⟩ := l30Rank_ev hb
  have hd : Ev (fun k => spec_DrawRankMany.f k c) (n, l, o, C, V) := by
    unfold spec_DrawRankMany.f
    rw [e0]
    simp only [Option.bind_some]
    exact Ev.bind e1 (Ev.ret _)
  obtain ⟨b1, b2, b3⟩ := rk_bounds hok
  have hs := specRankMany_ev n l o C V (by omega) (by omega)
  have hi := implRankMany_ev n l o C V (by omega) fC fV
  refine Ev.bind hd (Ev.bind hi (Ev.bind hs (Ev.pos rfl ?_)))
  show Ev (fun k => laws_FnRankMany.j0 k (rkMany n l o C V) (decide (rkMany n l o C V < 0)) n l o C V) true
  by_cases h : RkOk n l o C V
  rotate_left
  · have e : rkMany n l o C V = -1 := if_neg h
    rw [e] at hs ⊢
    refine Ev.step (G := fun k => (spec_RankMany.f k n l o C V).bind fun t118 => (some ((-1 : Int) == t118))) (fun k => by simp only [laws_FnRankMany.j0]; rw [if_pos (by decide)]) ?_
    exact Ev.bind hs (Ev.ret _)
  · have e : rkMany n l o C V = cntA (rkAll o (arcS l)).2 n.toNat n.toNat := if_pos h
    obtain ⟨h1, h2, h3, h4⟩ := h
    obtain ⟨N, rfl⟩ := Int.eq_ofNat_of_zero_le (show 0 ≤ n by omega)
    rw [Int.toNat_natCast] at e h4
    have hc := cntA_le (rkAll o (arcS l)).2 N (by omega) N
    rw [e, h4]
    refine Ev.step (fun k => by simp only [laws_FnRankMany.j0]; rw [if_neg (by simp; omega), if_pos (by omega), if_pos (by omega), Int.toNat_natCast]) (manyTail_ev (by omega) h2 (fun a b => ?_) l C)
    rcases rkAll_over o h2.2.1 (arcS l) a b with hh | ⟨g1, g2, g3, _⟩
    · exact .inl (by rw [show (rkAll o (arcS l)).2 a b = -1 from hh.2]; decide)
    · exact .inr ⟨g1, g2, g3⟩
end Go.Proofs.Ytdlaaccnaokdnaa.Pure
